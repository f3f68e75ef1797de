import PyProof.Rows.All
import Wide.All
import OpenK.AllK
import Wide.FinOn
import HandS.ForMost
import HandS.Slots
import HandS.Conv
import HandS.Wide
import HandS.IsInst
import HandS.Deep
import HandS.Codes
import HandS.Star
import HandS.Defaults
import HandS.SlotsOwn
import HandS.Property
import HandS.TupAny
import HandS.Style
import HandS.SortInts
import HandS.Zip
import HandS.SetFor
import HandS.Strs
import KE.KSortedM
import HandS.DictComp
import HandS.ListItems
import HandS.OwnEq
import HandS.More
import KE.KCallOwn
import OpenK.KMeth
import HandS.FStr
import HandS.Flow
import HandS.Text
import HandS.TryOnly
import HandS.AnyAll
import HandS.Zip0
import PyProof.GenCompT
import PyProof.EnumMake
import PyProof.Draws
import KE.KDictIter
import PyProof.ReprRoads
import HandS.EndTab
import KE.KStateDown
import HandS.Head0
import HandS.Head1
import HandS.Head2
import HandS.HeadEnd
import HandS.HeadHook1
import HandS.HeadHook2
import HandS.HeadHook4
import HandS.Spec
import HandS.ListEq
import PyProof.P3Eq
import PyProof.ReprLen
import HandS.MakeKwOnly
import PySem.Challenge.RW_fewnames_k82_whole_tables_replayed_from
set_option Elab.async false
set_option linter.all false
set_option maxRecDepth 100000
set_option maxHeartbeats 4000000
/-! D0: values with their content (D), a store of the objects that change (Mu), what of the heap bears them. -/
namespace DL
open PySem PySem.Spec PyProof.Rows L2 SlX

/-- a value with its content; ref n: the n-th object of the store; ad a: an object of the text (a class, a def) -/
inductive D where
  | non | bl (b : Bool) | int (i : Int) | str (x : Str) | ty (n : String) | ad (a : Addr)
  | tup (xs : List D) | lst (xs : List D) | fls (xs : List D) | dic (kvs : List (Key × D)) | obj (C : Addr) (xs : List D) | ref (n : Nat)

/-- an object that changes -/
inductive MO where
  | lst (xs : List D) | dic (kvs : List (Key × D)) | ins (C : Addr) (fs : List (Str × D)) | slt (C : Addr) (xs : List (Option D)) | tbl (P : Addr)

abbrev DS := List (Option D)
abbrev Mu := List MO
abbrev Eta := List (Addr × Addr)

mutual
inductive Rp (K : PySem.W.Frag) (F : Hp) (E : Eta) : D → V → Prop where
  | non : Rp K F E .non .non
  | bl (b : Bool) : Rp K F E (.bl b) (.bl b)
  | int (i : Int) : Rp K F E (.int i) (.int i)
  | str (x : Str) : Rp K F E (.str x) (.str x)
  | ty (n : String) : Rp K F E (.ty n) (.ty n)
  | ad (a : Addr) : Rp K F E (.ad a) (.ref a)
  | tup {a : Addr} {xs : List D} {vs : List V} : SqT K F a vs → Rps K F E xs vs → Rp K F E (.tup xs) (.ref a)
  | lst {a : Addr} {xs : List D} {vs : List V} : F a = some (.lst vs) → Rps K F E xs vs → Rp K F E (.lst xs) (.ref a)
  | fls {a : Addr} {xs : List D} {vs : List V} : SqL K F a vs → Rps K F E xs vs → Rp K F E (.fls xs) (.ref a)
  | dic {a : Addr} {kvs : List (Key × D)} {ws : List (Key × V)} : Rd F a (.dK ws) → RpK K F E kvs ws → Rp K F E (.dic kvs) (.ref a)
  | obj {a C dx : Addr} {xs : List D} {vs : List (Option V)} : F a = some (SlO a C dx vs) → F dx = some (.xd []) → RpO K F E xs vs → Rp K F E (.obj C xs) (.ref a)
  | ref {n : Nat} {p : Addr × Addr} : E[n]? = some p → Rp K F E (.ref n) (.ref p.1)
inductive Rps (K : PySem.W.Frag) (F : Hp) (E : Eta) : List D → List V → Prop where
  | nil : Rps K F E [] []
  | cons {d : D} {v : V} {ds : List D} {vs : List V} : Rp K F E d v → Rps K F E ds vs → Rps K F E (d :: ds) (v :: vs)
inductive RpK (K : PySem.W.Frag) (F : Hp) (E : Eta) : List (Key × D) → List (Key × V) → Prop where
  | nil : RpK K F E [] []
  | cons {k : Key} {d : D} {v : V} {ds : List (Key × D)} {vs : List (Key × V)} : Rp K F E d v → RpK K F E ds vs → RpK K F E ((k, d) :: ds) ((k, v) :: vs)
inductive RpO (K : PySem.W.Frag) (F : Hp) (E : Eta) : List D → List (Option V) → Prop where
  | nil : RpO K F E [] []
  | cons {d : D} {v : V} {ds : List D} {vs : List (Option V)} : Rp K F E d v → RpO K F E ds vs → RpO K F E (d :: ds) (some v :: vs)
end
/-- attributes by name -/
inductive RpF (K : PySem.W.Frag) (F : Hp) (E : Eta) : List (Str × D) → List (Str × V) → Prop where
  | nil : RpF K F E [] []
  | cons {k : Str} {d : D} {v : V} {ds : List (Str × D)} {vs : List (Str × V)} : Rp K F E d v → RpF K F E ds vs → RpF K F E ((k, d) :: ds) ((k, v) :: vs)
/-- slots, some not stored yet -/
inductive RpQ (K : PySem.W.Frag) (F : Hp) (E : Eta) : List (Option D) → List (Option V) → Prop where
  | nil : RpQ K F E [] []
  | some {d : D} {v : V} {ds : List (Option D)} {vs : List (Option V)} : Rp K F E d v → RpQ K F E ds vs → RpQ K F E (some d :: ds) (some v :: vs)
  | none {o : Option V} {ds : List (Option D)} {vs : List (Option V)} : RpQ K F E ds vs → RpQ K F E (none :: ds) (o :: vs)

def FSub (F F' : Hp) : Prop := ∀ b o, F b = some o → F' b = some o
def ESub (E E' : Eta) : Prop := ∃ T, E' = E ++ T
theorem FSub.refl {F : Hp} : FSub F F := fun _ _ h => h
theorem FSub.trans {F G H : Hp} (a : FSub F G) (b : FSub G H) : FSub F H := fun x o h => b x o (a x o h)
theorem ESub.refl {E : Eta} : ESub E E := ⟨[], by simp⟩
theorem ESub.trans {E G H : Eta} (a : ESub E G) (b : ESub G H) : ESub E H := by
  obtain ⟨t, rfl⟩ := a
  obtain ⟨u, rfl⟩ := b
  exact ⟨t ++ u, by simp⟩
theorem ESub.get {E E' : Eta} (h : ESub E E') {n : Nat} {p : Addr × Addr} (e : E[n]? = some p) : E'[n]? = some p := by
  obtain ⟨t, rfl⟩ := h
  rw [List.getElem?_append_left (List.getElem?_eq_some_iff.mp e).1]
  exact e
theorem FSub.upd {F : Hp} {p : Addr} {o : HO} (h : F p = none) : FSub F (upd F p o) := fun b u e => by
  rw [upd_ne (ne_of_none e h)]
  exact e
theorem FSub.rd {F F' : Hp} (f : FSub F F') {a : Addr} {u : HO} (h : Rd F a u) : Rd F' a u := h.elim (fun z => .inl (f a u z)) fun ⟨o, z⟩ => .inr ⟨o, f a _ z⟩
theorem FSub.sqT {K : PySem.W.Frag} {F F' : Hp} (f : FSub F F') {a : Addr} {xs : List V} (h : SqT K F a xs) : SqT K F' a xs := h.elim (fun z => .inl (f.rd z)) .inr
theorem FSub.sqL {K : PySem.W.Frag} {F F' : Hp} (f : FSub F F') {a : Addr} {xs : List V} (h : SqL K F a xs) : SqL K F' a xs := h.elim (fun z => .inl (f.rd z)) .inr

section
variable {K : PySem.W.Frag} {F F' : Hp} {E E' : Eta}
mutual
theorem Rp.mono (f : FSub F F') (e : ESub E E') : ∀ {d : D} {v : V}, Rp K F E d v → Rp K F' E' d v
  | _, _, .non => .non
  | _, _, .bl b => .bl b
  | _, _, .int i => .int i
  | _, _, .str x => .str x
  | _, _, .ty n => .ty n
  | _, _, .ad a => .ad a
  | _, _, .tup h r => .tup (f.sqT h) (Rps.mono f e r)
  | _, _, .lst h r => .lst (f _ _ h) (Rps.mono f e r)
  | _, _, .fls h r => .fls (f.sqL h) (Rps.mono f e r)
  | _, _, .dic h r => .dic (f.rd h) (RpK.mono f e r)
  | _, _, .obj h1 h2 r => .obj (f _ _ h1) (f _ _ h2) (RpO.mono f e r)
  | _, _, .ref h => .ref (e.get h)
theorem Rps.mono (f : FSub F F') (e : ESub E E') : ∀ {d : List D} {v : List V}, Rps K F E d v → Rps K F' E' d v
  | _, _, .nil => .nil
  | _, _, .cons r t => .cons (Rp.mono f e r) (Rps.mono f e t)
theorem RpK.mono (f : FSub F F') (e : ESub E E') : ∀ {d : List (Key × D)} {v : List (Key × V)}, RpK K F E d v → RpK K F' E' d v
  | _, _, .nil => .nil
  | _, _, .cons r t => .cons (Rp.mono f e r) (RpK.mono f e t)
theorem RpO.mono (f : FSub F F') (e : ESub E E') : ∀ {d : List D} {v : List (Option V)}, RpO K F E d v → RpO K F' E' d v
  | _, _, .nil => .nil
  | _, _, .cons r t => .cons (Rp.mono f e r) (RpO.mono f e t)
end
theorem RpF.mono (f : FSub F F') (e : ESub E E') : ∀ {d : List (Str × D)} {v : List (Str × V)}, RpF K F E d v → RpF K F' E' d v
  | _, _, .nil => .nil
  | _, _, .cons r t => .cons (r.mono f e) (RpF.mono f e t)
theorem RpQ.mono (f : FSub F F') (e : ESub E E') : ∀ {d : List (Option D)} {v : List (Option V)}, RpQ K F E d v → RpQ K F' E' d v
  | _, _, .nil => .nil
  | _, _, .some r t => .some (r.mono f e) (RpQ.mono f e t)
  | _, _, .none t => .none (RpQ.mono f e t)
theorem Rps.length : ∀ {d : List D} {v : List V}, Rps K F E d v → d.length = v.length
  | _, _, .nil => rfl
  | _, _, .cons _ t => congrArg (· + 1) (Rps.length t)
theorem Rps.get : ∀ {ds : List D} {vs : List V} {i : Nat} {d : D}, Rps K F E ds vs → ds[i]? = some d → ∃ v, vs[i]? = some v ∧ Rp K F E d v
  | _, _, _, _, .nil, e => by simp at e
  | _, _, 0, _, .cons r _, e => by simp at e; subst e; exact ⟨_, rfl, r⟩
  | _, _, i + 1, d, .cons r t, e => by
    obtain ⟨v, h1, h2⟩ := Rps.get (i := i) (d := d) t (by simpa using e)
    exact ⟨v, by simpa using h1, h2⟩
theorem Rps.getV : ∀ {ds : List D} {vs : List V} {i : Nat} {v : V}, Rps K F E ds vs → vs[i]? = some v → ∃ d, ds[i]? = some d ∧ Rp K F E d v
  | _, _, _, _, .nil, e => by simp at e
  | _, _, 0, _, .cons r _, e => by simp at e; subst e; exact ⟨_, rfl, r⟩
  | _, _, i + 1, v, .cons r t, e => by
    obtain ⟨d, h1, h2⟩ := Rps.getV (i := i) (v := v) t (by simpa using e)
    exact ⟨d, by simpa using h1, h2⟩
theorem Rps.append : ∀ {ds es : List D} {vs ws : List V}, Rps K F E ds vs → Rps K F E es ws → Rps K F E (ds ++ es) (vs ++ ws)
  | _, _, _, _, .nil, s => s
  | _, _, _, _, .cons r t, s => .cons r (Rps.append t s)
theorem Rps.take : ∀ {ds : List D} {vs : List V} (n : Nat), Rps K F E ds vs → Rps K F E (ds.take n) (vs.take n)
  | _, _, 0, _ => .nil
  | _, _, _ + 1, .nil => .nil
  | _, _, n + 1, .cons r t => .cons r (Rps.take n t)
theorem Rps.drop : ∀ {ds : List D} {vs : List V} (n : Nat), Rps K F E ds vs → Rps K F E (ds.drop n) (vs.drop n)
  | _, _, 0, r => r
  | _, _, _ + 1, .nil => .nil
  | _, _, n + 1, .cons _ t => Rps.drop n t
theorem Rps.set {d : D} {v : V} (r : Rp K F E d v) : ∀ {ds : List D} {vs : List V} (i : Nat), Rps K F E ds vs → Rps K F E (ds.set i d) (vs.set i v)
  | _, _, _, .nil => .nil
  | _, _, 0, .cons _ t => .cons r t
  | _, _, i + 1, .cons q t => .cons q (Rps.set r i t)
theorem Rps.reverse : ∀ {ds : List D} {vs : List V}, Rps K F E ds vs → Rps K F E ds.reverse vs.reverse
  | _, _, .nil => .nil
  | _, _, .cons r t => by
    rw [List.reverse_cons, List.reverse_cons]
    exact (Rps.reverse t).append (.cons r .nil)
theorem Rps.eraseIdx : ∀ {ds : List D} {vs : List V} (i : Nat), Rps K F E ds vs → Rps K F E (ds.eraseIdx i) (vs.eraseIdx i)
  | _, _, _, .nil => .nil
  | _, _, 0, .cons _ t => t
  | _, _, i + 1, .cons q t => .cons q (Rps.eraseIdx i t)
end

/-! ### the store in the heap -/
def MRel (K : PySem.W.Frag) (F H : Hp) (E : Eta) (p : Addr × Addr) : MO → Prop
  | .lst xs => ∃ vs, H p.1 = some (.lst vs) ∧ Rps K F E xs vs ∧ p.2 = p.1
  | .dic kvs => ∃ ws, H p.1 = some (.dK ws) ∧ RpK K F E kvs ws ∧ p.2 = p.1
  | .ins C fs => ∃ dx ws, H p.1 = some (.ins C dx ws) ∧ RpF K F E fs ws ∧ p.2 = p.1
  | .slt C xs => ∃ vs, Slt H p.1 C p.2 vs ∧ RpQ K F E xs vs ∧ p.2 ≠ p.1 ∧ ∃ o, H p.2 = some o
  | .tbl P => p.1 = P ∧ p.2 = P ∧ ∃ ps : Array Value, H P = some (.tbl ps) ∧ TriplesOk ps.toList

/-- F: what never changes any more; G: what is kept for those around; E: where the store's objects stand -/
structure Rl (K : PySem.W.Frag) (F G H : Hp) (E : Eta) (m : Mu) : Prop where
  sub : FSub F H
  gsub : FSub G H
  fg : ∀ (b : Addr) (o : HO), G b = some o → F b = none
  len : E.length = m.length
  obj : ∀ (n : Nat) (p : Addr × Addr) (mo : MO), E[n]? = some p → m[n]? = some mo → MRel K F H E p mo
  dis : ∀ (n : Nat) (p : Addr × Addr), E[n]? = some p → F p.1 = none ∧ F p.2 = none ∧ G p.1 = none ∧ G p.2 = none
  sep : ∀ (i j : Nat) (p q : Addr × Addr), E[i]? = some p → E[j]? = some q → i ≠ j → p.1 ≠ q.1 ∧ p.1 ≠ q.2 ∧ p.2 ≠ q.1 ∧ p.2 ≠ q.2

section
variable {K : PySem.W.Frag} {F F' G H H' : Hp} {E E' : Eta} {m m' : Mu}
theorem MRel.there {p : Addr × Addr} {mo : MO} (h : MRel K F H E p mo) : (∃ o, H p.1 = some o) ∧ ∃ o, H p.2 = some o := by
  cases mo with
  | lst xs => obtain ⟨vs, e, _, q⟩ := h; exact ⟨⟨_, e⟩, ⟨_, by rw [q]; exact e⟩⟩
  | dic xs => obtain ⟨vs, e, _, q⟩ := h; exact ⟨⟨_, e⟩, ⟨_, by rw [q]; exact e⟩⟩
  | ins C xs => obtain ⟨dx, vs, e, _, q⟩ := h; exact ⟨⟨_, e⟩, ⟨_, by rw [q]; exact e⟩⟩
  | slt C xs =>
    obtain ⟨vs, s, _, _, q⟩ := h
    refine ⟨?_, q⟩
    rcases s with ⟨e, _⟩ | ⟨e, _⟩
    · exact ⟨_, e⟩
    · exact ⟨_, e⟩
  | tbl P =>
    obtain ⟨e1, e2, ps, e, _⟩ := h
    exact ⟨⟨_, by rw [e1]; exact e⟩, ⟨_, by rw [e2]; exact e⟩⟩
/-- the heap where the object at p stands is what counts -/
theorem MRel.at_ {p : Addr × Addr} {mo : MO} (h : MRel K F H E p mo) (f : FSub F F') (e : ESub E E') (h1 : H' p.1 = H p.1) (h2 : H' p.2 = H p.2) : MRel K F' H' E' p mo := by
  cases mo with
  | lst xs => obtain ⟨vs, a, b, c⟩ := h; exact ⟨vs, h1.trans a, b.mono f e, c⟩
  | dic xs => obtain ⟨vs, a, b, c⟩ := h; exact ⟨vs, h1.trans a, b.mono f e, c⟩
  | ins C xs => obtain ⟨dx, vs, a, b, c⟩ := h; exact ⟨dx, vs, h1.trans a, b.mono f e, c⟩
  | slt C xs =>
    obtain ⟨vs, s, b, c, ⟨o, d⟩⟩ := h
    refine ⟨vs, ?_, b.mono f e, c, ⟨o, h2.trans d⟩⟩
    rcases s with ⟨z, q⟩ | ⟨z, q⟩
    · exact .inl ⟨h1.trans z, q⟩
    · exact .inr ⟨h1.trans z, h2.trans q⟩
  | tbl P =>
    obtain ⟨e1, e2, ps, e3, t⟩ := h
    refine ⟨e1, e2, ps, ?_, t⟩
    rw [e1] at h1
    exact h1.trans e3
theorem Rl.mo (r : Rl K F G H E m) {n : Nat} {mo : MO} (e : m[n]? = some mo) : ∃ p, E[n]? = some p ∧ MRel K F H E p mo := by
  have h : n < E.length := by rw [r.len]; exact (List.getElem?_eq_some_iff.mp e).1
  exact ⟨E[n], List.getElem?_eq_getElem h, r.obj n _ mo (List.getElem?_eq_getElem h) e⟩
theorem Rl.at_ (r : Rl K F G H E m) {n : Nat} {p : Addr × Addr} (e : E[n]? = some p) : ∃ mo, m[n]? = some mo ∧ MRel K F H E p mo := by
  have h : n < m.length := by rw [← r.len]; exact (List.getElem?_eq_some_iff.mp e).1
  exact ⟨m[n], List.getElem?_eq_getElem h, r.obj n p _ e (List.getElem?_eq_getElem h)⟩
theorem Rl.fresh (r : Rl K F G H E m) {a : Addr} (h : H a = none) : F a = none ∧ G a = none ∧ ∀ (n : Nat) (p : Addr × Addr), E[n]? = some p → p.1 ≠ a ∧ p.2 ≠ a := by
  refine ⟨?_, ?_, fun n p e => ?_⟩
  · cases q : F a with
    | none => rfl
    | some o => rw [r.sub a o q] at h; cases h
  · cases q : G a with
    | none => rfl
    | some o => rw [r.gsub a o q] at h; cases h
  · obtain ⟨mo, _, x⟩ := r.at_ e
    obtain ⟨⟨o, h1⟩, ⟨u, h2⟩⟩ := x.there
    exact ⟨ne_of_none h1 h, ne_of_none h2 h⟩
/-- what a value is said of stays where the heap grows by what nobody knows -/
theorem Rl.grow (r : Rl K F G H E m) {a : Addr} {o : HO} (h : H a = none) : Rl K F G (upd H a o) E m := by
  obtain ⟨f, g, n⟩ := r.fresh h
  refine ⟨fun b u e => ?_, fun b u e => ?_, r.fg, r.len, fun i p mo e1 e2 => ?_, r.dis, r.sep⟩
  · rw [upd_ne (ne_of_none e f)]; exact r.sub b u e
  · rw [upd_ne (ne_of_none e g)]; exact r.gsub b u e
  · exact (r.obj i p mo e1 e2).at_ FSub.refl ESub.refl (upd_ne (n i p e1).1) (upd_ne (n i p e1).2)
/-- a new object that never changes -/
theorem Rl.frozen (r : Rl K F G H E m) {a : Addr} {o : HO} (h : H a = none) : Rl K (upd F a o) G (upd H a o) E m := by
  obtain ⟨f, g, n⟩ := r.fresh h
  refine ⟨fun b u e => ?_, fun b u e => ?_, fun b u e => by rw [upd_ne (ne_of_none e g)]; exact r.fg b u e, r.len, fun i p mo e1 e2 => ?_, fun i p e => ?_, r.sep⟩
  · by_cases hb : b = a
    · subst hb; rw [upd_same] at e ⊢; exact e
    · rw [upd_ne hb] at e ⊢; exact r.sub b u e
  · rw [upd_ne (ne_of_none e g)]; exact r.gsub b u e
  · exact (r.obj i p mo e1 e2).at_ (FSub.upd f) ESub.refl (upd_ne (n i p e1).1) (upd_ne (n i p e1).2)
  · obtain ⟨d1, d2, d3, d4⟩ := r.dis i p e
    exact ⟨by rw [upd_ne (n i p e).1]; exact d1, by rw [upd_ne (n i p e).2]; exact d2, d3, d4⟩
/-- what never changes may be forgotten to be so -/
theorem Rl.kept (r : Rl K F G H E m) {a : Addr} {o : HO} (h : H a = none) : Rl K F (upd G a o) (upd H a o) E m := by
  obtain ⟨f, g, n⟩ := r.fresh h
  refine ⟨fun b u e => ?_, fun b u e => ?_, fun b u e => ?_, r.len, fun i p mo e1 e2 => ?_, fun i p e => ?_, r.sep⟩
  rotate_left 2
  · by_cases hb : b = a
    · subst hb; exact f
    · rw [upd_ne hb] at e; exact r.fg b u e
  rotate_right 2
  · rw [upd_ne (ne_of_none e f)]; exact r.sub b u e
  · by_cases hb : b = a
    · subst hb; rw [upd_same] at e ⊢; exact e
    · rw [upd_ne hb] at e ⊢; exact r.gsub b u e
  · exact (r.obj i p mo e1 e2).at_ FSub.refl ESub.refl (upd_ne (n i p e1).1) (upd_ne (n i p e1).2)
  · obtain ⟨d1, d2, d3, d4⟩ := r.dis i p e
    exact ⟨d1, d2, by rw [upd_ne (n i p e).1]; exact d3, by rw [upd_ne (n i p e).2]; exact d4⟩
/-- what is kept for those around: changed by them (at a), or given up -/
theorem Rl.rekept {a : Addr} {o o' : HO} (r : Rl K F (upd G a o) H E m) (hg : G a = none) : Rl K F (upd G a o') (upd H a o') E m := by
  have hf : F a = none := r.fg a o upd_same
  have ha : H a = some o := r.gsub a o upd_same
  have ne : ∀ (i : Nat) (p : Addr × Addr), E[i]? = some p → p.1 ≠ a ∧ p.2 ≠ a := fun i p e => by
    obtain ⟨_, _, d3, d4⟩ := r.dis i p e
    constructor
    · rintro rfl; rw [upd_same] at d3; cases d3
    · rintro rfl; rw [upd_same] at d4; cases d4
  refine ⟨fun b u e => ?_, fun b u e => ?_, fun b u e => ?_, r.len, fun i p mo e1 e2 => ?_, fun i p e => ?_, r.sep⟩
  rotate_left 2
  · by_cases hb : b = a
    · subst hb; exact hf
    · rw [upd_ne hb] at e; exact r.fg b u (by rw [upd_ne hb]; exact e)
  rotate_right 2
  · rw [upd_ne (ne_of_none e hf)]; exact r.sub b u e
  · by_cases hb : b = a
    · subst hb; rw [upd_same] at e ⊢; exact e
    · rw [upd_ne hb] at e ⊢; exact r.gsub b u (by rw [upd_ne hb]; exact e)
  · exact (r.obj i p mo e1 e2).at_ FSub.refl ESub.refl (upd_ne (ne i p e1).1) (upd_ne (ne i p e1).2)
  · obtain ⟨d1, d2, d3, d4⟩ := r.dis i p e
    rw [upd_ne (ne i p e).1] at d3
    rw [upd_ne (ne i p e).2] at d4
    exact ⟨d1, d2, by rw [upd_ne (ne i p e).1]; exact d3, by rw [upd_ne (ne i p e).2]; exact d4⟩
/-- .. it becomes one that never changes -/
theorem Rl.unkept {a : Addr} {o : HO} (r : Rl K F (upd G a o) H E m) (hg : G a = none) : Rl K (upd F a o) G H E m := by
  have hf : F a = none := r.fg a o upd_same
  have ha : H a = some o := r.gsub a o upd_same
  have ne : ∀ (i : Nat) (p : Addr × Addr), E[i]? = some p → p.1 ≠ a ∧ p.2 ≠ a := fun i p e => by
    obtain ⟨_, _, d3, d4⟩ := r.dis i p e
    constructor
    · rintro rfl; rw [upd_same] at d3; cases d3
    · rintro rfl; rw [upd_same] at d4; cases d4
  refine ⟨fun b u e => ?_, fun b u e => ?_, fun b u e => by rw [upd_ne (ne_of_none e hg)]; exact r.fg b u (by rw [upd_ne (ne_of_none e hg)]; exact e), r.len, fun i p mo e1 e2 => ?_, fun i p e => ?_, r.sep⟩
  · by_cases hb : b = a
    · subst hb; rw [upd_same] at e; cases e; exact ha
    · rw [upd_ne hb] at e; exact r.sub b u e
  · exact r.gsub b u (by rw [upd_ne (ne_of_none e hg)]; exact e)
  · exact (r.obj i p mo e1 e2).at_ (FSub.upd hf) ESub.refl rfl rfl
  · obtain ⟨d1, d2, d3, d4⟩ := r.dis i p e
    rw [upd_ne (ne i p e).1] at d3
    rw [upd_ne (ne i p e).2] at d4
    exact ⟨by rw [upd_ne (ne i p e).1]; exact d1, by rw [upd_ne (ne i p e).2]; exact d2, d3, d4⟩
/-- .. or is dropped -/
theorem Rl.dropped {a : Addr} {o : HO} (r : Rl K F (upd G a o) H E m) (hg : G a = none) : Rl K F G H E m := by
  refine ⟨r.sub, fun b u e => r.gsub b u (by rw [upd_ne (ne_of_none e hg)]; exact e), fun b u e => r.fg b u (by rw [upd_ne (ne_of_none e hg)]; exact e), r.len, r.obj, fun i p e => ?_, r.sep⟩
  obtain ⟨d1, d2, d3, d4⟩ := r.dis i p e
  have na : p.1 ≠ a ∧ p.2 ≠ a := by
    constructor
    · intro z; rw [z, upd_same] at d3; cases d3
    · intro z; rw [z, upd_same] at d4; cases d4
  rw [upd_ne na.1] at d3
  rw [upd_ne na.2] at d4
  exact ⟨d1, d2, d3, d4⟩
/-- a new object of the store -/
theorem Rl.alloc (r : Rl K F G H E m) {p : Addr × Addr} {mo : MO} (g : ∀ b o, H b = some o → H' b = some o) (h1 : H p.1 = none) (h2 : H p.2 = none) (h : MRel K F H' E p mo) : Rl K F G H' (E ++ [p]) (m ++ [mo]) := by
  obtain ⟨f1, g1, n1⟩ := r.fresh h1
  obtain ⟨f2, g2, n2⟩ := r.fresh h2
  have get : ∀ (i : Nat) (q : Addr × Addr), (E ++ [p])[i]? = some q → (E[i]? = some q ∧ i < E.length) ∨ (i = E.length ∧ q = p) := fun i q e => by
    by_cases hi : i < E.length
    · rw [List.getElem?_append_left hi] at e; exact .inl ⟨e, hi⟩
    · rw [List.getElem?_append_right (by omega)] at e
      obtain ⟨h3, h4⟩ := List.getElem?_eq_some_iff.mp e
      simp only [List.length_singleton] at h3
      have : i = E.length := by omega
      subst this
      simp at h4
      exact .inr ⟨rfl, h4.symm⟩
  have keep : ∀ (i : Nat) (q : Addr × Addr), E[i]? = some q → H' q.1 = H q.1 ∧ H' q.2 = H q.2 := fun i q e => by
    obtain ⟨mo, _, x⟩ := r.at_ e
    obtain ⟨⟨o, e1⟩, ⟨u, e2⟩⟩ := x.there
    exact ⟨(g _ _ e1).trans e1.symm, (g _ _ e2).trans e2.symm⟩
  refine ⟨fun b o e => g b o (r.sub b o e), fun b o e => g b o (r.gsub b o e), r.fg, by simp [r.len], fun i q mo' e1 e2 => ?_, fun i q e => ?_, fun i j q q' e1 e2 ne => ?_⟩
  · rcases get i q e1 with ⟨e, hi⟩ | ⟨rfl, rfl⟩
    · have hm : m[i]? = some mo' := by rw [List.getElem?_append_left (by rw [← r.len]; exact hi)] at e2; exact e2
      exact (r.obj i q mo' e hm).at_ FSub.refl ⟨_, rfl⟩ (keep i q e).1 (keep i q e).2
    · have : mo' = mo := by
        rw [r.len, List.getElem?_append_right (Nat.le_refl _)] at e2
        simpa using e2.symm
      subst this
      exact h.at_ FSub.refl ⟨_, rfl⟩ rfl rfl
  · rcases get i q e with ⟨e, hi⟩ | ⟨rfl, rfl⟩
    · exact r.dis i q e
    · exact ⟨f1, f2, g1, g2⟩
  · rcases get i q e1 with ⟨u1, hi⟩ | ⟨hi, hq⟩
    · rcases get j q' e2 with ⟨u2, hj⟩ | ⟨hj, hq'⟩
      · exact r.sep i j q q' u1 u2 ne
      · rw [hq']; exact ⟨(n1 i q u1).1, (n2 i q u1).1, (n1 i q u1).2, (n2 i q u1).2⟩
    · rcases get j q' e2 with ⟨u2, hj⟩ | ⟨hj, hq'⟩
      · rw [hq]; exact ⟨(n1 j q' u2).1.symm, (n1 j q' u2).2.symm, (n2 j q' u2).1.symm, (n2 j q' u2).2.symm⟩
      · exact absurd (hi.trans hj.symm) ne
/-- an object of the store is changed -/
theorem Rl.write (r : Rl K F G H E m) {n : Nat} {p : Addr × Addr} {mo : MO} (e : E[n]? = some p) (k : ∀ b, b ≠ p.1 → b ≠ p.2 → H' b = H b) (h : MRel K F H' E p mo) : Rl K F G H' E (m.set n mo) := by
  have hn : n < m.length := by rw [← r.len]; exact (List.getElem?_eq_some_iff.mp e).1
  obtain ⟨d1, d2, d3, d4⟩ := r.dis n p e
  refine ⟨fun b o x => ?_, fun b o x => ?_, r.fg, by simp [r.len], fun i q mo' e1 e2 => ?_, r.dis, r.sep⟩
  · rw [k b (ne_of_none x d1) (ne_of_none x d2)]; exact r.sub b o x
  · rw [k b (ne_of_none x d3) (ne_of_none x d4)]; exact r.gsub b o x
  · by_cases hi : i = n
    · subst hi
      rw [e] at e1; cases e1
      rw [List.getElem?_set_self hn] at e2; cases e2
      exact h
    · rw [List.getElem?_set_ne (Ne.symm hi)] at e2
      obtain ⟨s1, s2, s3, s4⟩ := r.sep i n q p e1 e hi
      exact (r.obj i q mo' e1 e2).at_ FSub.refl ESub.refl (k _ s1 s2) (k _ s3 s4)
end
end DL
set_option Elab.async false
set_option linter.all false
set_option maxRecDepth 100000
set_option maxHeartbeats 4000000
/-! D1: readings over values with content: names, operators, tests, displays, blocks. -/
namespace DL
open PySem PySem.Spec PyProof.Rows L2 SlX

abbrev TDE := DS → Mu → (D → Mu → Prop) → Prop
abbrev TDT := DS → Mu → (Bool → Mu → Prop) → Prop
abbrev TDA := DS → Mu → (List D → Mu → Prop) → Prop
structure DEnds where
  nx : DS → Mu → Prop
  rt : D → Mu → Prop
  bk : DS → Mu → Prop := fun _ _ => False
  ct : DS → Mu → Prop := fun _ _ => False
abbrev TDS := DEnds → DS → Mu → Prop

def RpS (K : PySem.W.Frag) (F : Hp) (E : Eta) (δ : DS) (σ : L2.St) : Prop := δ.length = σ.length ∧ ∀ (i : Nat) (d : D), δ[i]? = some (some d) → ∃ v, σ[i]? = some (some v) ∧ Rp K F E d v
theorem RpS.mono {K : PySem.W.Frag} {F F' : Hp} {E E' : Eta} {δ : DS} {σ : L2.St} (h : RpS K F E δ σ) (f : FSub F F') (e : ESub E E') : RpS K F' E' δ σ :=
  ⟨h.1, fun i d q => let ⟨v, a, b⟩ := h.2 i d q; ⟨v, a, b.mono f e⟩⟩
theorem RpS.set {K : PySem.W.Frag} {F : Hp} {E : Eta} {δ : DS} {σ : L2.St} (h : RpS K F E δ σ) (i : Nat) {d : D} {v : V} (r : Rp K F E d v) : RpS K F E (δ.set i (some d)) (σ.set i (some v)) := by
  refine ⟨by simpa using h.1, fun j x q => ?_⟩
  by_cases hj : i = j
  · subst hj
    have hl : i < δ.length := by
      have := (List.getElem?_eq_some_iff.mp q).1
      simpa using this
    rw [List.getElem?_set_self hl] at q
    cases q
    rw [List.getElem?_set_self (by rw [← h.1]; exact hl)]
    exact ⟨v, rfl, r⟩
  · rw [List.getElem?_set_ne hj] at q
    rw [List.getElem?_set_ne hj]
    exact h.2 j x q

/-- what comes behind: a value, a truth, values; a block's ends -/
def Cont (K : PySem.W.Frag) (F G : Hp) (E : Eta) (R : D → Mu → Prop) (Q : VK) : Prop := ∀ (d : D) (m' : Mu) (F' : Hp) (E' : Eta) (H' : Hp) (v : V), FSub F F' → ESub E E' → Rl K F' G H' E' m' → Rp K F' E' d v → R d m' → Q v H'
def ContB (K : PySem.W.Frag) (F G : Hp) (E : Eta) (R : Bool → Mu → Prop) (Q : Bool → Hp → Prop) : Prop := ∀ (b : Bool) (m' : Mu) (F' : Hp) (E' : Eta) (H' : Hp), FSub F F' → ESub E E' → Rl K F' G H' E' m' → R b m' → Q b H'
def ContA (K : PySem.W.Frag) (F G : Hp) (E : Eta) (R : List D → Mu → Prop) (Q : List V → Hp → Prop) : Prop := ∀ (d : List D) (m' : Mu) (F' : Hp) (E' : Eta) (H' : Hp) (v : List V), FSub F F' → ESub E E' → Rl K F' G H' E' m' → Rps K F' E' d v → R d m' → Q v H'
def ContN (K : PySem.W.Frag) (F G : Hp) (E : Eta) (R : DS → Mu → Prop) (Q : L2.St → Hp → Prop) : Prop := ∀ (δ : DS) (m' : Mu) (F' : Hp) (E' : Eta) (H' : Hp) (σ : L2.St), FSub F F' → ESub E E' → Rl K F' G H' E' m' → RpS K F' E' δ σ → R δ m' → Q σ H'
structure ContS (K : PySem.W.Frag) (F G : Hp) (E : Eta) (R : DEnds) (D : Ends) : Prop where
  nx : ContN K F G E R.nx D.nx
  rt : Cont K F G E R.rt D.rt
  bk : ContN K F G E R.bk D.bk
  ct : ContN K F G E R.ct D.ct
section
variable {K : PySem.W.Frag} {F F' G H H' : Hp} {E E' : Eta} {m m' : Mu}
theorem Cont.on {R : D → Mu → Prop} {Q : VK} (k : Cont K F G E R Q) (f : FSub F F') (e : ESub E E') : Cont K F' G E' R Q := fun d m' F2 E2 H' v f2 e2 => k d m' F2 E2 H' v (f.trans f2) (e.trans e2)
theorem ContB.on {R : Bool → Mu → Prop} {Q : Bool → Hp → Prop} (k : ContB K F G E R Q) (f : FSub F F') (e : ESub E E') : ContB K F' G E' R Q := fun d m' F2 E2 H' f2 e2 => k d m' F2 E2 H' (f.trans f2) (e.trans e2)
theorem ContA.on {R : List D → Mu → Prop} {Q : List V → Hp → Prop} (k : ContA K F G E R Q) (f : FSub F F') (e : ESub E E') : ContA K F' G E' R Q := fun d m' F2 E2 H' v f2 e2 => k d m' F2 E2 H' v (f.trans f2) (e.trans e2)
theorem ContN.on {R : DS → Mu → Prop} {Q : L2.St → Hp → Prop} (k : ContN K F G E R Q) (f : FSub F F') (e : ESub E E') : ContN K F' G E' R Q := fun d m' F2 E2 H' v f2 e2 => k d m' F2 E2 H' v (f.trans f2) (e.trans e2)
theorem ContS.on {R : DEnds} {Q : Ends} (k : ContS K F G E R Q) (f : FSub F F') (e : ESub E E') : ContS K F' G E' R Q := ⟨k.nx.on f e, k.rt.on f e, k.bk.on f e, k.ct.on f e⟩
/-- nothing new -/
theorem Cont.val {R : D → Mu → Prop} {Q : VK} (k : Cont K F G E R Q) (r : Rl K F G H E m) {d : D} {v : V} (p : Rp K F E d v) (h : R d m) : Q v H := k d m F E H v FSub.refl ESub.refl r p h
theorem ContB.val {R : Bool → Mu → Prop} {Q : Bool → Hp → Prop} (k : ContB K F G E R Q) (r : Rl K F G H E m) {b : Bool} (h : R b m) : Q b H := k b m F E H FSub.refl ESub.refl r h
theorem ContA.val {R : List D → Mu → Prop} {Q : List V → Hp → Prop} (k : ContA K F G E R Q) (r : Rl K F G H E m) {d : List D} {v : List V} (p : Rps K F E d v) (h : R d m) : Q v H := k d m F E H v FSub.refl ESub.refl r p h
theorem ContN.val {R : DS → Mu → Prop} {Q : L2.St → Hp → Prop} (k : ContN K F G E R Q) (r : Rl K F G H E m) {δ : DS} {σ : L2.St} (p : RpS K F E δ σ) (h : R δ m) : Q σ H := k δ m F E H σ FSub.refl ESub.refl r p h
/-- a new tuple, a new list that never changes -/
theorem Cont.tup {R : D → Mu → Prop} {Q : VK} (k : Cont K F G E R Q) (r : Rl K F G H E m) {ds : List D} {vs : List V} (p : Rps K F E ds vs) (h : R (.tup ds) m) {a : Addr} (ha : H a = none) : Q (.ref a) (upd H a (.tup vs)) :=
  k _ m _ E _ _ (FSub.upd (r.fresh ha).1) ESub.refl (r.frozen ha) (.tup (SqT.of upd_same) (p.mono (FSub.upd (r.fresh ha).1) ESub.refl)) h
theorem Cont.lst {R : D → Mu → Prop} {Q : VK} (k : Cont K F G E R Q) (r : Rl K F G H E m) {ds : List D} {vs : List V} (p : Rps K F E ds vs) (h : R (.lst ds) m) {a : Addr} (ha : H a = none) : Q (.ref a) (upd H a (.lst vs)) :=
  k _ m _ E _ _ (FSub.upd (r.fresh ha).1) ESub.refl (r.frozen ha) (.lst upd_same (p.mono (FSub.upd (r.fresh ha).1) ESub.refl)) h
/-- a new list of the store -/
theorem Cont.lstM {R : D → Mu → Prop} {Q : VK} (k : Cont K F G E R Q) (r : Rl K F G H E m) {ds : List D} {vs : List V} (p : Rps K F E ds vs) (h : R (.ref m.length) (m ++ [.lst ds])) {a : Addr} (ha : H a = none) : Q (.ref a) (upd H a (.lst vs)) := by
  have r' : Rl K F G (upd H a (.lst vs)) (E ++ [(a, a)]) (m ++ [.lst ds]) := r.alloc (fun b o e => by rw [upd_ne (ne_of_none e ha)]; exact e) ha ha ⟨vs, upd_same, p, rfl⟩
  exact k _ _ F _ _ _ FSub.refl ⟨_, rfl⟩ r' (.ref (p := (a, a)) (by rw [← r.len, List.getElem?_append_right (Nat.le_refl _)]; simp)) h
theorem Cont.dicM {R : D → Mu → Prop} {Q : VK} (k : Cont K F G E R Q) (r : Rl K F G H E m) {ds : List (Key × D)} {vs : List (Key × V)} (p : RpK K F E ds vs) (h : R (.ref m.length) (m ++ [.dic ds])) {a : Addr} (ha : H a = none) : Q (.ref a) (upd H a (.dK vs)) := by
  have r' : Rl K F G (upd H a (.dK vs)) (E ++ [(a, a)]) (m ++ [.dic ds]) := r.alloc (fun b o e => by rw [upd_ne (ne_of_none e ha)]; exact e) ha ha ⟨vs, upd_same, p, rfl⟩
  exact k _ _ F _ _ _ FSub.refl ⟨_, rfl⟩ r' (.ref (p := (a, a)) (by rw [← r.len, List.getElem?_append_right (Nat.le_refl _)]; simp)) h
theorem Cont.dic {R : D → Mu → Prop} {Q : VK} (k : Cont K F G E R Q) (r : Rl K F G H E m) {ds : List (Key × D)} {vs : List (Key × V)} (p : RpK K F E ds vs) (h : R (.dic ds) m) {a : Addr} (ha : H a = none) : Q (.ref a) (upd H a (.dK vs)) :=
  k _ m _ E _ _ (FSub.upd (r.fresh ha).1) ESub.refl (r.frozen ha) (.dic (.inl upd_same) (p.mono (FSub.upd (r.fresh ha).1) ESub.refl)) h
end

/-! ### the judgements -/
def liftE (K : PySem.W.Frag) (t : TDE) : TE := fun σ H Q => ∃ F G E m δ R, Rl K F G H E m ∧ RpS K F E δ σ ∧ t δ m R ∧ Cont K F G E R Q
def liftT (K : PySem.W.Frag) (t : TDT) : TT := fun σ H Q => ∃ F G E m δ R, Rl K F G H E m ∧ RpS K F E δ σ ∧ t δ m R ∧ ContB K F G E R Q
def liftA (K : PySem.W.Frag) (t : TDA) : TA := fun σ H Q => ∃ F G E m δ R, Rl K F G H E m ∧ RpS K F E δ σ ∧ t δ m R ∧ ContA K F G E R Q
def liftS (K : PySem.W.Frag) (t : TDS) : TS := fun D σ H => ∃ F G E m δ R, Rl K F G H E m ∧ RpS K F E δ σ ∧ t R δ m ∧ ContS K F G E R D
structure DE (X : Cx) (e : Expr) (t : TDE) : Prop where
  pe : PE X e (liftE X.K t)
structure DT (X : Cx) (e : Expr) (t : TDT) : Prop where
  pt : PT X e (liftT X.K t)
structure DW (X : Cx) (e : Expr) (t : TDT) : Prop where
  pw : PW X e (liftT X.K t)
structure DA (X : Cx) (es : List Expr) (t : TDA) : Prop where
  pa : PA X es (liftA X.K t)
structure DSt (X : Cx) (st : Stmt) (t : TDS) : Prop where
  ps : PS X st (liftS X.K t)
structure DSs (X : Cx) (st : List Stmt) (t : TDS) : Prop where
  ps : PSs X st (liftS X.K t)
section
variable {X : Cx} {e : Expr} {es : List Expr} {st : Stmt} {sts : List Stmt}
theorem PE.imp {t t' : TE} (h : PE X e t) (k : ∀ σ H Q, t' σ H Q → t σ H Q) : PE X e t' := ⟨fun pins s σ H Q I z => h.run pins s σ H Q I (k σ H Q z)⟩
theorem PT.imp {t t' : TT} (h : PT X e t) (k : ∀ σ H Q, t' σ H Q → t σ H Q) : PT X e t' := ⟨fun pins s σ H Q I z => h.run pins s σ H Q I (k σ H Q z)⟩
theorem PW.imp {t t' : TT} (h : PW X e t) (k : ∀ σ H Q, t' σ H Q → t σ H Q) : PW X e t' := ⟨fun wh pins s σ H Q I z => h.run wh pins s σ H Q I (k σ H Q z)⟩
theorem PA.imp {t t' : TA} (h : PA X es t) (k : ∀ σ H Q, t' σ H Q → t σ H Q) : PA X es t' := ⟨fun p pins s σ H Q I z => h.run p pins s σ H Q I (k σ H Q z)⟩
theorem PS.imp {t t' : TS} (h : PS X st t) (k : ∀ D σ H, t' D σ H → t D σ H) : PS X st t' := ⟨fun pins s σ H D I z => h.run pins s σ H D I (k D σ H z)⟩
theorem PSs.imp {t t' : TS} (h : PSs X sts t) (k : ∀ D σ H, t' D σ H → t D σ H) : PSs X sts t' := ⟨fun pins s σ H D I z => h.run pins s σ H D I (k D σ H z)⟩
end

/-! ### names, constants -/
section
variable {X : Cx} {pos : Pos}
def dVar (i : Nat) : TDE := fun δ m R => ∃ d, δ[i]? = some (some d) ∧ R d m
theorem dv (i : Nat) {x : Str} (hN : X.N[i]? = some x := by rfl) (hv : Vis X.env.scope x := by first | exact Or.inl rfl | exact Or.inr (Or.inl rfl) | exact Or.inr (Or.inr rfl)) (hd : (x == ("__debug__" : Str)) = false := by decide) (hcd : (x == ("__classdict__" : Str)) = false := by decide) : DE X (.Name x pos) (dVar i) := by
  refine ⟨PE.imp (pe_var (i := i) hN hv hd hcd) fun σ H Q ⟨F, G, E, m, δ, R, rl, rs, ⟨d, h1, h2⟩, k⟩ => ?_⟩
  obtain ⟨v, e1, r⟩ := rs.2 i d h1
  exact ⟨v, e1, k.val rl r h2⟩
def dC (d : D) : TDE := fun _ m R => R d m
theorem de_c {e : Expr} {d : D} {v : V} (h : PE X e (tC v)) (r : ∀ F E, Rp X.K F E d v) : DE X e (dC d) :=
  ⟨PE.imp h fun σ H Q ⟨F, G, E, m, δ, R, rl, rs, h1, k⟩ => k.val rl (r F E) h1⟩
theorem de_int {i : Int} {j} : DE X (.Constant (.int i) j pos) (dC (.int i)) := de_c pe_int fun _ _ => .int i
theorem de_bl {b : Bool} {j} : DE X (.Constant (.bool b) j pos) (dC (.bl b)) := de_c pe_bl fun _ _ => .bl b
theorem de_non {j} : DE X (.Constant .none j pos) (dC .non) := de_c pe_non fun _ _ => .non
theorem de_str {x : Str} {j} : DE X (.Constant (.str x) j pos) (dC (.str x)) := de_c pe_str fun _ _ => .str x
theorem de_gint {x : Str} {i : Int} (hm : ∃ t, X.mg x = some (.int i t)) (hg : Gl X x := by rfl) (hd : (x == ("__debug__" : Str)) = false := by decide) : DE X (.Name x pos) (dC (.int i)) := by
  obtain ⟨t, hm⟩ := hm
  exact de_c (pe_glob (v := .int i) hg hm ⟨t, rfl⟩ hd) fun _ _ => .int i
theorem de_gstr {x z : Str} (hm : ∃ t, X.mg x = some (.str z t)) (hg : Gl X x := by rfl) (hd : (x == ("__debug__" : Str)) = false := by decide) : DE X (.Name x pos) (dC (.str z)) := by
  obtain ⟨t, hm⟩ := hm
  exact de_c (pe_glob (v := .str z) hg hm ⟨t, rfl⟩ hd) fun _ _ => .str z
theorem de_gref {x : Str} {a : Addr} (hm : X.mg x = some (.ref a)) (hg : Gl X x := by rfl) (hd : (x == ("__debug__" : Str)) = false := by decide) : DE X (.Name x pos) (dC (.ad a)) :=
  de_c (pe_glob (v := .ref a) hg hm rfl hd) fun _ _ => .ad a
theorem de_gty {x : Str} {n : String} (hm : X.mg x = none) (hv : bootBuiltins x = some (.type n)) (hg : Gl X x := by rfl) (hn : x ≠ "__name__" := by decide) (hd : (x == ("__debug__" : Str)) = false := by decide) : DE X (.Name x pos) (dC (.ty n)) :=
  de_c (pe_bltn (v := .ty n) hg hm hv rfl hn hd) fun _ _ => .ty n
end

/-! ### operators by values -/
abbrev DR2 := D → D → Mu → (D → Mu → Prop) → Prop
abbrev DR1 := D → Mu → (D → Mu → Prop) → Prop
abbrev DRs := List D → Mu → (D → Mu → Prop) → Prop
def lift2 (K : PySem.W.Frag) (g : DR2) : R2 := fun x y H Q => ∃ F G E m dx dy R, Rl K F G H E m ∧ Rp K F E dx x ∧ Rp K F E dy y ∧ g dx dy m R ∧ Cont K F G E R Q
def lift1 (K : PySem.W.Frag) (g : DR1) : V → Hp → VK → Prop := fun x H Q => ∃ F G E m dx R, Rl K F G H E m ∧ Rp K F E dx x ∧ g dx m R ∧ Cont K F G E R Q
def liftC (K : PySem.W.Frag) (g : DRs) : List V → Hp → VK → Prop := fun xs H Q => ∃ F G E m ds R, Rl K F G H E m ∧ Rps K F E ds xs ∧ g ds m R ∧ Cont K F G E R Q
def OpD (X : Cx) (f : Value → Value → Sem Value) (g : DR2) : Prop := OpR X f (lift2 X.K g)
def UnD (X : Cx) (f : Value → Sem Value) (g : DR1) : Prop := UnR X f (lift1 X.K g)
def CallD (X : Cx) (f : Value) (g : DRs) : Prop := CallR X f (liftC X.K g)
theorem OpR.imp {X : Cx} {f : Value → Value → Sem Value} {r r' : R2} (h : OpR X f r) (k : ∀ x y H Q, r' x y H Q → r x y H Q) : OpR X f r' := fun pins s σ H x y v u Q I rx ry q => h pins s σ H x y v u Q I rx ry (k x y H Q q)
theorem UnR.imp {X : Cx} {f : Value → Sem Value} {r r' : V → Hp → VK → Prop} (h : UnR X f r) (k : ∀ x H Q, r' x H Q → r x H Q) : UnR X f r' := fun pins s σ H x v Q I rx q => h pins s σ H x v Q I rx (k x H Q q)
theorem CallR.imp {X : Cx} {f : Value} {r r' : List V → Hp → VK → Prop} (h : CallR X f r) (k : ∀ xs H Q, r' xs H Q → r xs H Q) : CallR X f r' := fun pins s σ H xs us Q I rx q => h pins s σ H xs us Q I rx (k xs H Q q)
def dOp (g : DR2) (ta tb : TDE) : TDE := fun δ m R => ta δ m fun x m1 => tb δ m1 fun y m2 => g x y m2 R
def dUn (g : DR1) (ta : TDE) : TDE := fun δ m R => ta δ m fun x m1 => g x m1 R
section
variable {X : Cx} {pos : Pos} {a b : Expr} {ta tb : TDE}
/-- two parts in a row -/
theorem lift_bin {K : PySem.W.Frag} {g : DR2} {σ : L2.St} {H : Hp} {Q : VK} (h : liftE K (dOp g ta tb) σ H Q) : liftE K ta σ H fun x H1 => liftE K tb σ H1 fun y H2 => lift2 K g x y H2 Q := by
  obtain ⟨F, G, E, m, δ, R, rl, rs, h, k⟩ := h
  refine ⟨F, G, E, m, δ, _, rl, rs, h, fun d m1 F1 E1 H1 v f1 e1 rl1 rp1 h1 => ?_⟩
  refine ⟨F1, G, E1, m1, δ, _, rl1, rs.mono f1 e1, h1, fun d2 m2 F2 E2 H2 v2 f2 e2 rl2 rp2 h2 => ?_⟩
  exact ⟨F2, G, E2, m2, d, d2, R, rl2, rp1.mono f2 e2, rp2, h2, (k.on f1 e1).on f2 e2⟩
theorem lift_un {K : PySem.W.Frag} {g : DR1} {σ : L2.St} {H : Hp} {Q : VK} (h : liftE K (dUn g ta) σ H Q) : liftE K ta σ H fun x H1 => lift1 K g x H1 Q := by
  obtain ⟨F, G, E, m, δ, R, rl, rs, h, k⟩ := h
  exact ⟨F, G, E, m, δ, _, rl, rs, h, fun d m1 F1 E1 H1 v f1 e1 rl1 rp1 h1 => ⟨F1, G, E1, m1, d, R, rl1, rp1, h1, k.on f1 e1⟩⟩
theorem de_op {op : Operator} {g : DR2} (ho : OpD X (binaryOp op) g) (ha : DE X a ta) (hb : DE X b tb) : DE X (.BinOp a op b pos) (dOp g ta tb) := ⟨PE.imp (pe_op ho ha.pe hb.pe) fun σ H Q h => lift_bin h⟩
theorem de_un {op : UnaryOp} {g : DR1} (ho : UnD X (unaryOp op) g) (ha : DE X a ta) : DE X (.UnaryOp op a pos) (dUn g ta) := ⟨PE.imp (pe_un ho ha.pe) fun σ H Q h => lift_un h⟩
theorem de_cmp {op : CmpOp} {g : DR2} (ho : OpD X (compareOp op) g) (ha : DE X a ta) (hb : DE X b tb) (hm : behindInMarks op b = false := by first | exact nomark _ | with_unfolding_all rfl) : DE X (.Compare a [op] [b] pos) (dOp g ta tb) := ⟨PE.imp (pe_cmpR ho ha.pe hb.pe hm) fun σ H Q h => lift_bin h⟩
/-- a value that is a bool, as a test -/
def dTB (t : TDE) : TDT := fun δ m R => t δ m fun x m1 => ∃ k, x = .bl k ∧ R k m1
theorem lift_tb {K : PySem.W.Frag} {t : TDE} {σ : L2.St} {H : Hp} {Q : Bool → Hp → Prop} (h : liftT K (dTB t) σ H Q) : liftE K t σ H fun x H1 => ∃ k, x = .bl k ∧ Q k H1 := by
  obtain ⟨F, G, E, m, δ, R, rl, rs, h, k⟩ := h
  refine ⟨F, G, E, m, δ, _, rl, rs, h, fun d m1 F1 E1 H1 v f1 e1 rl1 rp1 h1 => ?_⟩
  obtain ⟨c, rfl, h1⟩ := h1
  cases rp1
  exact ⟨c, rfl, k c m1 F1 E1 H1 f1 e1 rl1 h1⟩
theorem lift_op_tb {K : PySem.W.Frag} {g : DR2} {σ : L2.St} {H : Hp} {Q : Bool → Hp → Prop} (h : liftT K (dTB (dOp g ta tb)) σ H Q) : tTest (tOp (lift2 K g) (liftE K ta) (liftE K tb)) σ H Q := lift_bin (lift_tb h)
theorem dt_cmp {op : CmpOp} {g : DR2} (ho : OpD X (compareOp op) g) (ha : DE X a ta) (hb : DE X b tb) (hm : behindInMarks op b = false := by first | exact nomark _ | with_unfolding_all rfl) : DT X (.Compare a [op] [b] pos) (dTB (dOp g ta tb)) := ⟨PT.imp (pt_cmpR ho ha.pe hb.pe hm) fun σ H Q h => lift_op_tb h⟩
/-- an expression whose value is a bool, as a test -/
theorem dt_val {e : Expr} {t : TDE} (h : DE X e t) (he : ∀ whole, isTrue e X.env whole = (do let v ← whole; standAt e.pos; holding [v] (truthy v)) := by intro _; rfl) : DT X e (dTB t) := ⟨PT.imp (pt_val h.pe he) fun σ H Q h => lift_tb h⟩
def dChain (g g' : DR2) (ta tb tc : TDE) : TDE := fun δ m R => ta δ m fun x m1 => tb δ m1 fun y m2 => g x y m2 fun z m3 => ∃ k, z = .bl k ∧ (if k = true then tc δ m3 fun w m4 => g' y w m4 R else R (.bl false) m3)
theorem lift_chain {K : PySem.W.Frag} {g g' : DR2} {tc : TDE} {σ : L2.St} {H : Hp} {Q : VK} (h : liftE K (dChain g g' ta tb tc) σ H Q) : tChain (lift2 K g) (lift2 K g') (liftE K ta) (liftE K tb) (liftE K tc) σ H Q := by
  obtain ⟨F, G, E, m, δ, R, rl, rs, h, k⟩ := h
  refine ⟨F, G, E, m, δ, _, rl, rs, h, fun d m1 F1 E1 H1 v f1 e1 rl1 rp1 h1 => ?_⟩
  refine ⟨F1, G, E1, m1, δ, _, rl1, rs.mono f1 e1, h1, fun d2 m2 F2 E2 H2 v2 f2 e2 rl2 rp2 h2 => ?_⟩
  refine ⟨F2, G, E2, m2, d, d2, _, rl2, rp1.mono f2 e2, rp2, h2, fun z m3 F3 E3 H3 v3 f3 e3 rl3 rp3 ⟨c, ec, h3⟩ => ?_⟩
  subst ec
  cases rp3
  refine ⟨c, rfl, ?_⟩
  have k3 := ((k.on f1 e1).on f2 e2).on f3 e3
  cases c with
  | false =>
    rw [if_neg (by decide)] at h3 ⊢
    exact k3.val rl3 (.bl false) h3
  | true =>
    rw [if_pos rfl] at h3 ⊢
    refine ⟨F3, G, E3, m3, δ, _, rl3, ((rs.mono f1 e1).mono f2 e2).mono f3 e3, h3, fun d4 m4 F4 E4 H4 v4 f4 e4 rl4 rp4 h4 => ?_⟩
    exact ⟨F4, G, E4, m4, d2, d4, R, rl4, (rp2.mono f3 e3).mono f4 e4, rp4, h4, k3.on f4 e4⟩
theorem de_chain {op op' : CmpOp} {g g' : DR2} {c : Expr} {tc : TDE} (ho : OpD X (compareOp op) g) (ho' : OpD X (compareOp op') g') (ha : DE X a ta) (hb : DE X b tb) (hc : DE X c tc) (hm : lastMarks [op, op'] [b, c] = false := by with_unfolding_all rfl) : DE X (.Compare a [op, op'] [b, c] pos) (dChain g g' ta tb tc) :=
  ⟨PE.imp (pe_chain ho ho' ha.pe hb.pe hc.pe hm) fun σ H Q h => lift_chain h⟩
theorem dt_chain {op op' : CmpOp} {g g' : DR2} {c : Expr} {tc : TDE} (ho : OpD X (compareOp op) g) (ho' : OpD X (compareOp op') g') (ha : DE X a ta) (hb : DE X b tb) (hc : DE X c tc) (hm : lastMarks [op, op'] [b, c] = false := by with_unfolding_all rfl) : DT X (.Compare a [op, op'] [b, c] pos) (dTB (dChain g g' ta tb tc)) :=
  ⟨PT.imp (pt_chain ho ho' ha.pe hb.pe hc.pe hm) fun σ H Q h => lift_chain (lift_tb h)⟩

/-! ### and, or, not, if else -/
def dAnd (t u : TDT) : TDT := fun δ m R => t δ m fun c m1 => if c = true then u δ m1 R else R false m1
def dOr (t u : TDT) : TDT := fun δ m R => t δ m fun c m1 => if c = true then R true m1 else u δ m1 R
def dNot (t : TDT) : TDT := fun δ m R => t δ m fun c m1 => R (!c) m1
variable {tA tB' : TDT} {rest : List Expr}
theorem dw_and1 (ha : DT X a tA) : DW X (.BoolOp .And [a] pos) tA := ⟨pw_and1 ha.pt⟩
theorem dw_or1 (ha : DT X a tA) : DW X (.BoolOp .Or [a] pos) tA := ⟨pw_or1 ha.pt⟩
theorem dw_and (ha : DT X a tA) (hb : DW X (.BoolOp .And (b :: rest) pos) tB') : DW X (.BoolOp .And (a :: b :: rest) pos) (dAnd tA tB') :=
  ⟨PW.imp (pw_and ha.pt hb.pw) fun σ H Q ⟨F, G, E, m, δ, R, rl, rs, h, k⟩ => ⟨F, G, E, m, δ, _, rl, rs, h, fun c m1 F1 E1 H1 f1 e1 rl1 h1 => by
    cases c with
    | true =>
      rw [if_pos rfl] at h1 ⊢
      exact ⟨F1, G, E1, m1, δ, R, rl1, rs.mono f1 e1, h1, k.on f1 e1⟩
    | false =>
      rw [if_neg (by decide)] at h1 ⊢
      exact k false m1 F1 E1 H1 f1 e1 rl1 h1⟩⟩
theorem dw_or (ha : DT X a tA) (hb : DW X (.BoolOp .Or (b :: rest) pos) tB') : DW X (.BoolOp .Or (a :: b :: rest) pos) (dOr tA tB') :=
  ⟨PW.imp (pw_or ha.pt hb.pw) fun σ H Q ⟨F, G, E, m, δ, R, rl, rs, h, k⟩ => ⟨F, G, E, m, δ, _, rl, rs, h, fun c m1 F1 E1 H1 f1 e1 rl1 h1 => by
    cases c with
    | true =>
      rw [if_pos rfl] at h1 ⊢
      exact k true m1 F1 E1 H1 f1 e1 rl1 h1
    | false =>
      rw [if_neg (by decide)] at h1 ⊢
      exact ⟨F1, G, E1, m1, δ, R, rl1, rs.mono f1 e1, h1, k.on f1 e1⟩⟩⟩
theorem DW.dt {e : Expr} {t : TDT} (h : DW X e t) : DT X e t := ⟨h.pw.pt⟩
theorem dt_not (ha : DT X a tA) : DT X (.UnaryOp .Not a pos) (dNot tA) :=
  ⟨PT.imp (pt_not ha.pt) fun σ H Q ⟨F, G, E, m, δ, R, rl, rs, h, k⟩ => ⟨F, G, E, m, δ, _, rl, rs, h, fun c m1 F1 E1 H1 f1 e1 rl1 h1 => k (!c) m1 F1 E1 H1 f1 e1 rl1 h1⟩⟩
/-- as values (bools) -/
def dAndV (ta tb : TDE) : TDE := fun δ m R => ta δ m fun x m1 => ∃ c, x = .bl c ∧ if c = true then tb δ m1 R else R (.bl false) m1
def dOrV (ta tb : TDE) : TDE := fun δ m R => ta δ m fun x m1 => ∃ c, x = .bl c ∧ if c = true then R (.bl true) m1 else tb δ m1 R
def dNotV (ta : TDE) : TDE := fun δ m R => ta δ m fun x m1 => ∃ c, x = .bl c ∧ R (.bl (!c)) m1
theorem de_one {op} {t : TDE} (h : DE X a t) : DE X (.BoolOp op [a] pos) t := ⟨pe_one h.pe⟩
theorem de_and (ha : DE X a ta) (hb : DE X (.BoolOp .And (b :: rest) pos) tb) : DE X (.BoolOp .And (a :: b :: rest) pos) (dAndV ta tb) :=
  ⟨PE.imp (pe_and ha.pe hb.pe) fun σ H Q ⟨F, G, E, m, δ, R, rl, rs, h, k⟩ => ⟨F, G, E, m, δ, _, rl, rs, h, fun x m1 F1 E1 H1 v f1 e1 rl1 rp1 ⟨c, ex, h1⟩ => by
    subst ex
    cases rp1
    refine ⟨c, rfl, ?_⟩
    cases c with
    | true =>
      rw [if_pos rfl] at h1 ⊢
      exact ⟨F1, G, E1, m1, δ, R, rl1, rs.mono f1 e1, h1, k.on f1 e1⟩
    | false =>
      rw [if_neg (by decide)] at h1 ⊢
      exact (k.on f1 e1).val rl1 (.bl false) h1⟩⟩
theorem de_or (ha : DE X a ta) (hb : DE X (.BoolOp .Or (b :: rest) pos) tb) : DE X (.BoolOp .Or (a :: b :: rest) pos) (dOrV ta tb) :=
  ⟨PE.imp (pe_or ha.pe hb.pe) fun σ H Q ⟨F, G, E, m, δ, R, rl, rs, h, k⟩ => ⟨F, G, E, m, δ, _, rl, rs, h, fun x m1 F1 E1 H1 v f1 e1 rl1 rp1 ⟨c, ex, h1⟩ => by
    subst ex
    cases rp1
    refine ⟨c, rfl, ?_⟩
    cases c with
    | true =>
      rw [if_pos rfl] at h1 ⊢
      exact (k.on f1 e1).val rl1 (.bl true) h1
    | false =>
      rw [if_neg (by decide)] at h1 ⊢
      exact ⟨F1, G, E1, m1, δ, R, rl1, rs.mono f1 e1, h1, k.on f1 e1⟩⟩⟩
theorem de_not (ha : DE X a ta) : DE X (.UnaryOp .Not a pos) (dNotV ta) :=
  ⟨PE.imp (pe_not ha.pe) fun σ H Q ⟨F, G, E, m, δ, R, rl, rs, h, k⟩ => ⟨F, G, E, m, δ, _, rl, rs, h, fun x m1 F1 E1 H1 v f1 e1 rl1 rp1 ⟨c, ex, h1⟩ => by
    subst ex
    cases rp1
    exact ⟨c, rfl, (k.on f1 e1).val rl1 (.bl (!c)) h1⟩⟩⟩
def dIf (t : TDT) (ta tb : TDE) : TDE := fun δ m R => t δ m fun c m1 => if c = true then ta δ m1 R else tb δ m1 R
theorem de_if {c : Expr} (hc : DT X c tA) (ha : DE X a ta) (hb : DE X b tb) : DE X (.IfExp c a b pos) (dIf tA ta tb) :=
  ⟨PE.imp (pe_ifExp hc.pt ha.pe hb.pe) fun σ H Q ⟨F, G, E, m, δ, R, rl, rs, h, k⟩ => ⟨F, G, E, m, δ, _, rl, rs, h, fun c m1 F1 E1 H1 f1 e1 rl1 h1 => by
    cases c with
    | true =>
      rw [if_pos rfl] at h1 ⊢
      exact ⟨F1, G, E1, m1, δ, R, rl1, rs.mono f1 e1, h1, k.on f1 e1⟩
    | false =>
      rw [if_neg (by decide)] at h1 ⊢
      exact ⟨F1, G, E1, m1, δ, R, rl1, rs.mono f1 e1, h1, k.on f1 e1⟩⟩⟩
end

/-! ### lists of parts, displays -/
section
variable {X : Cx} {pos : Pos} {e : Expr} {es : List Expr} {te : TDE} {ts : TDA}
def dNil : TDA := fun _ m R => R [] m
def dCons (t : TDE) (u : TDA) : TDA := fun δ m R => t δ m fun x m1 => u δ m1 fun xs m2 => R (x :: xs) m2
theorem da_nil : DA X [] dNil := ⟨PA.imp pa_nil fun σ H Q ⟨F, G, E, m, δ, R, rl, rs, h, k⟩ => k.val rl .nil h⟩
theorem da_cons (ha : DE X e te) (hr : DA X es ts) (hs : starEach (e :: es) X.env = (false, eval e X.env) :: starEach es X.env := by rfl) : DA X (e :: es) (dCons te ts) :=
  ⟨PA.imp (pa_cons ha.pe hr.pa hs) fun σ H Q ⟨F, G, E, m, δ, R, rl, rs, h, k⟩ => ⟨F, G, E, m, δ, _, rl, rs, h, fun x m1 F1 E1 H1 v f1 e1 rl1 rp1 h1 =>
    ⟨F1, G, E1, m1, δ, _, rl1, rs.mono f1 e1, h1, fun xs m2 F2 E2 H2 vs f2 e2 rl2 rp2 h2 => (k.on f1 e1) (x :: xs) m2 F2 E2 H2 (v :: vs) f2 e2 rl2 (.cons (rp1.mono f2 e2) rp2) h2⟩⟩⟩
def dTup (t : TDA) : TDE := fun δ m R => t δ m fun xs m1 => xs.length ≤ sizeLine ∧ R (.tup xs) m1
theorem de_tup {x1} (h : DA X es ts) : DE X (.Tuple es x1 pos) (dTup ts) :=
  ⟨PE.imp (pe_tup h.pa) fun σ H Q ⟨F, G, E, m, δ, R, rl, rs, h, k⟩ => ⟨F, G, E, m, δ, _, rl, rs, h, fun xs m1 F1 E1 H1 v f1 e1 rl1 rp1 ⟨z, h1⟩ =>
    ⟨by rw [← rp1.length]; exact z, fun p hp => (k.on f1 e1).tup rl1 rp1 h1 hp⟩⟩⟩
/-- a list that never changes; one of the store -/
def dLst (t : TDA) : TDE := fun δ m R => t δ m fun xs m1 => xs.length ≤ sizeLine ∧ R (.lst xs) m1
def dLstM (t : TDA) : TDE := fun δ m R => t δ m fun xs m1 => xs.length ≤ sizeLine ∧ R (.ref m1.length) (m1 ++ [.lst xs])
theorem de_lst (h : DA X es ts) : DE X (.List es pos) (dLst ts) :=
  ⟨PE.imp (pe_lst h.pa) fun σ H Q ⟨F, G, E, m, δ, R, rl, rs, h, k⟩ => ⟨F, G, E, m, δ, _, rl, rs, h, fun xs m1 F1 E1 H1 v f1 e1 rl1 rp1 ⟨z, h1⟩ =>
    ⟨by rw [← rp1.length]; exact z, fun p hp => (k.on f1 e1).lst rl1 rp1 h1 hp⟩⟩⟩
theorem de_lstM (h : DA X es ts) : DE X (.List es pos) (dLstM ts) :=
  ⟨PE.imp (pe_lst h.pa) fun σ H Q ⟨F, G, E, m, δ, R, rl, rs, h, k⟩ => ⟨F, G, E, m, δ, _, rl, rs, h, fun xs m1 F1 E1 H1 v f1 e1 rl1 rp1 ⟨z, h1⟩ =>
    ⟨by rw [← rp1.length]; exact z, fun p hp => (k.on f1 e1).lstM rl1 rp1 h1 hp⟩⟩⟩
end

/-! ### blocks -/
section
variable {X : Cx} {pos : Pos} {e : Expr} {st : Stmt} {rest : List Stmt} {te : TDE} {t u : TDS}
def dNext : TDS := fun D δ m => D.nx δ m
def dSeq (t u : TDS) : TDS := fun D δ m => t { D with nx := u D } δ m
theorem ds_nil : DSs X [] dNext := ⟨PSs.imp pss_nil fun D σ H ⟨F, G, E, m, δ, R, rl, rs, h, k⟩ => k.nx.val rl rs h⟩
theorem lift_seq {K : PySem.W.Frag} {D : Ends} {σ : L2.St} {H : Hp} (h : liftS K (dSeq t u) D σ H) : tSeq (liftS K t) (liftS K u) D σ H := by
  obtain ⟨F, G, E, m, δ, R, rl, rs, h, k⟩ := h
  exact ⟨F, G, E, m, δ, _, rl, rs, h, ⟨fun δ1 m1 F1 E1 H1 σ1 f1 e1 rl1 rs1 h1 => ⟨F1, G, E1, m1, δ1, R, rl1, rs1, h1, k.on f1 e1⟩, k.rt, k.bk, k.ct⟩⟩
theorem ds_cons (h1 : DSt X st t) (h2 : DSs X rest u) : DSs X (st :: rest) (dSeq t u) := ⟨PSs.imp (pss_cons h1.ps h2.ps) fun D σ H h => lift_seq h⟩
theorem ds_one (h1 : DSt X st t) : DSs X [st] t := ⟨pss_one h1.ps⟩
def dBreak : TDS := fun D δ m => D.bk δ m
def dCont : TDS := fun D δ m => D.ct δ m
theorem dst_pass : DSt X (.Pass pos) dNext := ⟨PS.imp ps_pass fun D σ H ⟨F, G, E, m, δ, R, rl, rs, h, k⟩ => k.nx.val rl rs h⟩
theorem dst_break : DSt X (.Break pos) dBreak := ⟨PS.imp ps_break fun D σ H ⟨F, G, E, m, δ, R, rl, rs, h, k⟩ => k.bk.val rl rs h⟩
theorem dst_continue : DSt X (.Continue pos) dCont := ⟨PS.imp ps_continue fun D σ H ⟨F, G, E, m, δ, R, rl, rs, h, k⟩ => k.ct.val rl rs h⟩
def dNever : TDS := fun _ _ _ => False
theorem dst_never : DSt X st dNever := ⟨⟨fun _ _ _ _ _ _ ⟨_, _, _, _, _, _, _, _, h, _⟩ => h.elim⟩⟩
theorem ds_never {sts : List Stmt} : DSs X sts dNever := ⟨⟨fun _ _ _ _ _ _ ⟨_, _, _, _, _, _, _, _, h, _⟩ => h.elim⟩⟩
def dDrop (t : TDE) : TDS := fun D δ m => t δ m fun _ m1 => D.nx δ m1
theorem dst_expr (he : DE X e te) (hs : swapsWith e none pos.line X.env = pure false := by rfl) : DSt X (.Expr e pos) (dDrop te) :=
  ⟨PS.imp (ps_expr he.pe hs) fun D σ H ⟨F, G, E, m, δ, R, rl, rs, h, k⟩ => ⟨F, G, E, m, δ, _, rl, rs, h, fun x m1 F1 E1 H1 v f1 e1 rl1 rp1 h1 => k.nx δ m1 F1 E1 H1 σ f1 e1 rl1 (rs.mono f1 e1) h1⟩⟩
def dRet (t : TDE) : TDS := fun D δ m => t δ m D.rt
theorem dst_ret (he : DE X e te) : DSt X (.Return (some e) pos) (dRet te) :=
  ⟨PS.imp (ps_ret he.pe) fun D σ H ⟨F, G, E, m, δ, R, rl, rs, h, k⟩ => ⟨F, G, E, m, δ, _, rl, rs, h, k.rt⟩⟩
def dRetN : TDS := fun D _ m => D.rt .non m
theorem dst_retN : DSt X (.Return none pos) dRetN := ⟨PS.imp ps_retN fun D σ H ⟨F, G, E, m, δ, R, rl, rs, h, k⟩ => k.rt.val rl .non h⟩
def dIfS (c : TDT) (t u : TDS) : TDS := fun D δ m => c δ m fun b m1 => if b = true then t D δ m1 else u D δ m1
theorem dst_if {c : Expr} {a b : List Stmt} {tc : TDT} (hc : DT X c tc) (ha : DSs X a t) (hb : DSs X b u) : DSt X (.If c a b pos) (dIfS tc t u) :=
  ⟨PS.imp (ps_if hc.pt ha.ps hb.ps) fun D σ H ⟨F, G, E, m, δ, R, rl, rs, h, k⟩ => ⟨F, G, E, m, δ, _, rl, rs, h, fun c m1 F1 E1 H1 f1 e1 rl1 h1 => by
    cases c with
    | true =>
      rw [if_pos rfl] at h1 ⊢
      exact ⟨F1, G, E1, m1, δ, R, rl1, rs.mono f1 e1, h1, k.on f1 e1⟩
    | false =>
      rw [if_neg (by decide)] at h1 ⊢
      exact ⟨F1, G, E1, m1, δ, R, rl1, rs.mono f1 e1, h1, k.on f1 e1⟩⟩⟩

/-! ### targets -/
abbrev TDG := D → DS → Mu → (DS → Mu → Prop) → Prop
abbrev TDGs := List D → DS → Mu → (DS → Mu → Prop) → Prop
def liftG (K : PySem.W.Frag) (t : TDG) : TG := fun v σ H Q => ∃ F G E m δ d R, Rl K F G H E m ∧ RpS K F E δ σ ∧ Rp K F E d v ∧ t d δ m R ∧ ContN K F G E R Q
def liftGs (K : PySem.W.Frag) (t : TDGs) : TGs := fun v σ H Q => ∃ F G E m δ d R, Rl K F G H E m ∧ RpS K F E δ σ ∧ Rps K F E d v ∧ t d δ m R ∧ ContN K F G E R Q
structure DG (X : Cx) (tg : Expr) (t : TDG) : Prop where
  pg : PG X tg (liftG X.K t)
structure DGs (X : Cx) (tg : List Expr) (t : TDGs) : Prop where
  pg : PGs X tg (liftGs X.K t)
theorem PG.imp {tg : Expr} {t t' : TG} (h : PG X tg t) (k : ∀ v σ H Q, t' v σ H Q → t v σ H Q) : PG X tg t' := ⟨fun pins s σ H v u Q I r z => h.run pins s σ H v u Q I r (k v σ H Q z)⟩
theorem PGs.imp {tg : List Expr} {t t' : TGs} (h : PGs X tg t) (k : ∀ v σ H Q, t' v σ H Q → t v σ H Q) : PGs X tg t' := ⟨fun pins s σ H v u Q I r z => h.run pins s σ H v u Q I r (k v σ H Q z)⟩
def dName (i : Nat) : TDG := fun d δ m R => R (δ.set i (some d)) m
theorem dg_name (i : Nat) {x : Str} (hN : X.N.Nodup) (hi : X.N[i]? = some x := by rfl) (hx : Loc X.env.scope x := by first | exact Or.inl rfl | exact Or.inr rfl) (hf : X.fn x = true ∨ X.env.scope.names.lookup x = some .local := by first | exact .inl rfl | exact .inr rfl | assumption) : DG X (.Name x pos) (dName i) :=
  ⟨PG.imp (pg_name (i := i) hN hi hx hf) fun v σ H Q ⟨F, G, E, m, δ, d, R, rl, rs, rp, h, k⟩ => k.val rl (rs.set i rp) h⟩
def dGNil : TDGs := fun ds δ m R => ds = [] ∧ R δ m
def dGCons (t : TDG) (u : TDGs) : TDGs := fun ds δ m R => ∃ d r, ds = d :: r ∧ t d δ m fun δ1 m1 => u r δ1 m1 R
theorem dgs_nil : DGs X [] dGNil := ⟨PGs.imp pgs_nil fun v σ H Q ⟨F, G, E, m, δ, d, R, rl, rs, rp, ⟨h1, h2⟩, k⟩ => by
  subst h1
  cases rp
  exact ⟨rfl, k.val rl rs h2⟩⟩
theorem dgs_cons {es : List Expr} {t : TDG} {u : TDGs} (h1 : DG X e t) (h2 : DGs X es u) (hs : (assignEach (e :: es) X.env).map (·.2) = assign e X.env :: (assignEach es X.env).map (·.2) := by rfl) : DGs X (e :: es) (dGCons t u) :=
  ⟨PGs.imp (pgs_cons h1.pg h2.pg hs) fun v σ H Q ⟨F, G, E, m, δ, d, R, rl, rs, rp, ⟨x, r, ed, h⟩, k⟩ => by
    subst ed
    cases rp with
    | cons r1 r2 =>
      refine ⟨_, _, rfl, F, G, E, m, δ, x, _, rl, rs, r1, h, fun δ1 m1 F1 E1 H1 σ1 f1 e1 rl1 rs1 h1 => ?_⟩
      exact ⟨F1, G, E1, m1, δ1, r, R, rl1, rs1, r2.mono f1 e1, h1, k.on f1 e1⟩⟩
/-- (a, b, ..) = a tuple -/
def dGTup (n : Nat) (t : TDGs) : TDG := fun d δ m R => ∃ xs, d = .tup xs ∧ xs.length = n ∧ t xs δ m R
theorem dg_tup {es : List Expr} {k : Nat} {t : TDGs} {n : Nat} (hc : X.calm = true) (h : DGs X es t) (hn : (assignEach es X.env).length = n := by rfl) (hst : (assignEach es X.env).findIdx? (·.1) = none := by rfl) : DG X (.Tuple es k pos) (dGTup n t) :=
  ⟨PG.imp (pg_tup hc h.pg hn hst) fun v σ H Q ⟨F, G, E, m, δ, d, R, rl, rs, rp, ⟨xs, ed, hl, h⟩, k⟩ => by
    subst ed
    cases rp with
    | tup sq r => exact ⟨_, _, rfl, (rl.sub.sqT sq), by rw [← r.length]; exact hl, F, G, E, m, δ, xs, R, rl, rs, r, h, k⟩⟩
def dAsg (te : TDE) (g : TDG) : TDS := fun D δ m => te δ m fun x m1 => g x δ m1 D.nx
theorem lift_asg {K : PySem.W.Frag} {g : TDG} {D : Ends} {σ : L2.St} {H : Hp} (h : liftS K (dAsg te g) D σ H) : tAsg (liftE K te) (liftG K g) D σ H := by
  obtain ⟨F, G, E, m, δ, R, rl, rs, h, k⟩ := h
  exact ⟨F, G, E, m, δ, _, rl, rs, h, fun x m1 F1 E1 H1 v f1 e1 rl1 rp1 h1 => ⟨F1, G, E1, m1, δ, x, _, rl1, rs.mono f1 e1, rp1, h1, (k.on f1 e1).nx⟩⟩
theorem dst_asg {tg : Expr} {g : TDG} (he : DE X e te) (hg : DG X tg g) (hs : swapsWithSole [tg] e pos.line X.env = pure false := by rfl) (hw : swappedStores [tg] e X.env = pure none := by rfl)
    (h1 : (assignEach [tg] X.env).map (·.2) = [assign tg X.env] := by rfl) : DSt X (.Assign [tg] e pos) (dAsg te g) := ⟨PS.imp (ps_asg he.pe hg.pg hs hw h1) fun D σ H h => lift_asg h⟩
theorem dst_set (i : Nat) {x : Str} {pos' : Pos} (hN : X.N.Nodup) (he : DE X e te) (hi : X.N[i]? = some x := by rfl) (hx : Loc X.env.scope x := by first | exact Or.inl rfl | exact Or.inr rfl) (hs : swapsWith e (some (.Name x pos')) pos.line X.env = pure false := by rfl) (hf : X.fn x = true ∨ X.env.scope.names.lookup x = some .local := by first | exact .inl rfl | exact .inr rfl | assumption) :
    DSt X (.Assign [.Name x pos'] e pos) (dAsg te (dName i)) :=
  ⟨PS.imp (ps_set (i := i) hN hi hx he.pe hs hf) fun D σ H ⟨F, G, E, m, δ, R, rl, rs, h, k⟩ => ⟨F, G, E, m, δ, _, rl, rs, h, fun x m1 F1 E1 H1 v f1 e1 rl1 rp1 h1 => k.nx _ m1 F1 E1 H1 _ f1 e1 rl1 ((rs.mono f1 e1).set i rp1) h1⟩⟩
/-- a, b = x, y with plain local names -/
def dPar (i j : Nat) (ta : TDA) : TDS := fun D δ m => ta δ m fun ds m1 => ∃ x y, ds = [x, y] ∧ D.nx ((δ.set i (some x)).set j (some y)) m1
theorem dst_par (i j : Nat) {x y : Str} {a b : Expr} {ta : TDA} {px py pt : Pos} {kt k2 pt2} (hc : X.calm = true) (hN : X.N.Nodup) (ha : DA X [a, b] ta) (hi : X.N[i]? = some x := by rfl) (hj : X.N[j]? = some y := by rfl) (hij : i ≠ j := by decide)
    (hx : X.env.scope.names.lookup x = some .local := by rfl) (hy : X.env.scope.names.lookup y = some .local := by rfl)
    (hw : swappedStores [.Tuple [.Name x px, .Name y py] kt pt] (.Tuple [a, b] k2 pt2) X.env = pure (some [x, y]) := by rfl)
    (hs : swapsWithSole [.Tuple [.Name x px, .Name y py] kt pt] (.Tuple [a, b] k2 pt2) pos.line X.env = pure false := by rfl) :
    DSt X (.Assign [.Tuple [.Name x px, .Name y py] kt pt] (.Tuple [a, b] k2 pt2) pos) (dPar i j ta) :=
  ⟨PS.imp (ps_par (i := i) (j := j) hc hN hi hj hij hx hy ha.pa hw hs) fun D σ H ⟨F, G, E, m, δ, R, rl, rs, h, k⟩ => ⟨F, G, E, m, δ, _, rl, rs, h, fun ds m1 F1 E1 H1 vs f1 e1 rl1 rp1 ⟨x, y, ed, h1⟩ => by
    subst ed
    cases rp1 with
    | cons r1 r2 =>
      cases r2 with
      | cons r2 r3 =>
        cases r3
        exact ⟨_, _, rfl, k.nx _ m1 F1 E1 H1 _ f1 e1 rl1 (((rs.mono f1 e1).set i r1).set j r2) h1⟩⟩⟩
end
end DL
set_option Elab.async false
set_option linter.all false
set_option maxRecDepth 100000
set_option maxHeartbeats 4000000
/-! D2: operators, comparisons, truth, len, isinstance by values with content. -/
namespace DL
open PySem PySem.Spec PyProof.Rows L2 SlX

/-! ### what stands behind a value -/
def lstOf : D → Mu → Option (List D)
  | .lst xs, _ => some xs
  | .ref n, m => match m[n]? with
    | some (.lst xs) => some xs
    | _ => none
  | _, _ => none
def tupOf : D → Option (List D)
  | .tup xs => some xs
  | _ => none
def seqOf : D → Mu → Option (List D)
  | .tup xs, _ => some xs
  | .fls xs, _ => some xs
  | d, m => lstOf d m
def dicOf : D → Mu → Option (List (Key × D))
  | .dic xs, _ => some xs
  | .ref n, m => match m[n]? with
    | some (.dic xs) => some xs
    | _ => none
  | _, _ => none
section
variable {K : PySem.W.Frag} {F F' G H H' : Hp} {E E' : Eta} {m m' : Mu} {d : D} {v : V}
theorem Rl.ref_at (r : Rl K F G H E m) {n : Nat} {mo : MO} (p : Rp K F E (.ref n) v) (h : m[n]? = some mo) : ∃ q, E[n]? = some q ∧ v = .ref q.1 ∧ MRel K F H E q mo := by
  cases p with
  | ref e => exact ⟨_, e, rfl, r.obj n _ mo e h⟩
theorem Rl.lst_ok (r : Rl K F G H E m) {xs : List D} (p : Rp K F E d v) (h : lstOf d m = some xs) : ∃ a vs, v = .ref a ∧ H a = some (.lst vs) ∧ Rps K F E xs vs := by
  cases d with
  | lst ys =>
    cases h
    cases p with
    | lst e t => exact ⟨_, _, rfl, r.sub _ _ e, t⟩
  | ref n =>
    have h' : (match m[n]? with | some (MO.lst xs) => some xs | _ => none) = some xs := h
    cases e : m[n]? with
    | none => rw [e] at h'; cases h'
    | some mo =>
      rw [e] at h'
      cases mo with
      | lst ys =>
        cases h'
        obtain ⟨q, _, rfl, vs, a, b, _⟩ := r.ref_at p e
        exact ⟨_, _, rfl, a, b⟩
      | _ => cases h'
  | _ => cases h
theorem Rl.seq_ok (r : Rl K F G H E m) {xs : List D} (p : Rp K F E d v) (h : seqOf d m = some xs) : ∃ a vs, v = .ref a ∧ (SqL K H a vs ∨ SqT K H a vs) ∧ Rps K F E xs vs := by
  have go : lstOf d m = some xs → ∃ a vs, v = .ref a ∧ (SqL K H a vs ∨ SqT K H a vs) ∧ Rps K F E xs vs := fun z => by
    obtain ⟨a, vs, e1, e2, e3⟩ := r.lst_ok p z
    exact ⟨a, vs, e1, .inl (SqL.of e2), e3⟩
  cases d with
  | tup ys =>
    cases h
    cases p with
    | tup e t => exact ⟨_, _, rfl, .inr (r.sub.sqT e), t⟩
  | fls ys =>
    cases h
    cases p with
    | fls e t => exact ⟨_, _, rfl, .inl (r.sub.sqL e), t⟩
  | _ => exact go h
theorem Rl.tup_ok (r : Rl K F G H E m) {xs : List D} (p : Rp K F E (.tup xs) v) : ∃ a vs, v = .ref a ∧ SqT K H a vs ∧ Rps K F E xs vs := by
  cases p with
  | tup e t => exact ⟨_, _, rfl, r.sub.sqT e, t⟩
theorem Rl.dic_ok (r : Rl K F G H E m) {xs : List (Key × D)} (p : Rp K F E d v) (h : dicOf d m = some xs) : ∃ a vs, v = .ref a ∧ Rd H a (.dK vs) ∧ RpK K F E xs vs := by
  cases d with
  | dic ys =>
    cases h
    cases p with
    | dic e t => exact ⟨_, _, rfl, r.sub.rd e, t⟩
  | ref n =>
    have h' : (match m[n]? with | some (MO.dic xs) => some xs | _ => none) = some xs := h
    cases e : m[n]? with
    | none => rw [e] at h'; cases h'
    | some mo =>
      rw [e] at h'
      cases mo with
      | dic ys =>
        cases h'
        obtain ⟨q, _, rfl, vs, a, b, _⟩ := r.ref_at p e
        exact ⟨_, _, rfl, .inl a, b⟩
      | _ => cases h'
  | _ => cases h
end

/-! ### ints -/
section
variable {X : Cx}
theorem opd_int {f : Value → Value → Sem Value} {C : Int → Int → Prop} {g : Int → Int → V} (h : OpR X f (rI C g)) (gd : Int → Int → D) (hg : ∀ i j F E, Rp X.K F E (gd i j) (g i j)) : OpD X f (fun x y m R => ∃ i j, x = .int i ∧ y = .int j ∧ C i j ∧ R (gd i j) m) :=
  OpR.imp h fun x y H Q ⟨F, G, E, m, dx, dy, R, rl, rx, ry, ⟨i, j, e1, e2, c, h⟩, k⟩ => by
    subst e1 e2
    cases rx
    cases ry
    exact ⟨i, j, rfl, rfl, c, k.val rl (hg i j F E) h⟩
theorem opd_int0 {f : Value → Value → Sem Value} {g : Int → Int → V} (h : OpR X f (rI0 g)) (gd : Int → Int → D) (hg : ∀ i j F E, Rp X.K F E (gd i j) (g i j)) : OpD X f (fun x y m R => ∃ i j, x = .int i ∧ y = .int j ∧ R (gd i j) m) :=
  OpR.imp h fun x y H Q ⟨F, G, E, m, dx, dy, R, rl, rx, ry, ⟨i, j, e1, e2, h⟩, k⟩ => by
    subst e1 e2
    cases rx
    cases ry
    exact ⟨i, j, rfl, rfl, k.val rl (hg i j F E) h⟩
def dI0 (g : Int → Int → D) : DR2 := fun x y m R => ∃ i j, x = .int i ∧ y = .int j ∧ R (g i j) m
def dI (C : Int → Int → Prop) (g : Int → Int → D) : DR2 := fun x y m R => ∃ i j, x = .int i ∧ y = .int j ∧ C i j ∧ R (g i j) m
theorem od_sub : OpD X (binaryOp .Sub) (dI0 fun i j => .int (i - j)) := opd_int0 op_sub _ fun _ _ _ _ => .int _
theorem od_mod : OpD X (binaryOp .Mod) (dI (fun _ j => 0 < j) fun i j => .int (i % j)) := opd_int op_mod _ fun _ _ _ _ => .int _
theorem od_fdiv : OpD X (binaryOp .FloorDiv) (dI CDivW fun i j => .int (i / j)) := opd_int op_fdivW _ fun _ _ _ _ => .int _
theorem od_mulI : OpD X (binaryOp .Mult) (dI CMulW fun i j => .int (i * j)) := opd_int op_mulW _ fun _ _ _ _ => .int _
theorem od_pow : OpD X (binaryOp .Pow) (dI CPow fun i j => .int (i ^ j.toNat)) := opd_int op_pow _ fun _ _ _ _ => .int _
theorem od_lt : OpD X (compareOp .Lt) (dI0 fun i j => .bl (decide (i < j))) := opd_int0 op_lt _ fun _ _ _ _ => .bl _
theorem od_le : OpD X (compareOp .LtE) (dI0 fun i j => .bl (decide (i ≤ j))) := opd_int0 op_le _ fun _ _ _ _ => .bl _
theorem od_gt : OpD X (compareOp .Gt) (dI0 fun i j => .bl (decide (j < i))) := opd_int0 op_gt _ fun _ _ _ _ => .bl _
theorem od_ge : OpD X (compareOp .GtE) (dI0 fun i j => .bl (decide (j ≤ i))) := opd_int0 op_ge _ fun _ _ _ _ => .bl _
theorem ud_neg : UnD X (unaryOp .USub) (fun x m R => ∃ i, x = .int i ∧ R (.int (-i)) m) :=
  UnR.imp un_neg fun x H Q ⟨F, G, E, m, dx, R, rl, rx, ⟨i, e1, h⟩, k⟩ => by
    subst e1
    cases rx
    exact ⟨i, rfl, k.val rl (.int _) h⟩

/-! ### + by kinds -/
def dAdd : DR2 := fun x y m R => match x, y with
  | .int i, .int j => R (.int (i + j)) m
  | .str a, .str b => a.length + b.length ≤ sizeLine ∧ R (.str (a ++ b)) m
  | .tup xs, .tup ys => xs.length + ys.length ≤ sizeLine ∧ xs ≠ [] ∧ R (.tup (xs ++ ys)) m
  | x, y => ∃ xs ys, lstOf x m = some xs ∧ lstOf y m = some ys ∧ xs.length + ys.length ≤ sizeLine ∧ R (.lst (xs ++ ys)) m
theorem od_add : OpD X (binaryOp .Add) dAdd := by
  refine OpR.imp (((op_add (X := X)).or (op_add_str (X := X))).or ((op_catT (X := X)).or (op_cat (X := X)))) fun x y H Q ⟨F, G, E, m, dx, dy, R, rl, rx, ry, h, k⟩ => ?_
  have go : (∃ xs ys, lstOf dx m = some xs ∧ lstOf dy m = some ys ∧ xs.length + ys.length ≤ sizeLine ∧ R (.lst (xs ++ ys)) m) → rCat x y H Q := fun ⟨xs, ys, h1, h2, hz, h⟩ => by
    obtain ⟨a, vs, e1, e2, e3⟩ := rl.lst_ok rx h1
    obtain ⟨b, ws, q1, q2, q3⟩ := rl.lst_ok ry h2
    exact ⟨a, b, vs, ws, e1, q1, e2, q2, by rw [← e3.length, ← q3.length]; exact hz, fun p hp => k.lst rl (e3.append q3) h hp⟩
  unfold dAdd at h
  split at h
  · cases rx
    cases ry
    exact .inl (.inl ⟨_, _, rfl, rfl, k.val rl (.int _) h⟩)
  · cases rx
    cases ry
    exact .inl (.inr ⟨_, _, rfl, rfl, h.1, k.val rl (.str _) h.2⟩)
  · rename_i xs ys
    obtain ⟨hz, hx, h⟩ := h
    obtain ⟨a, vs, e1, e2, e3⟩ := rl.tup_ok rx
    obtain ⟨b, ws, q1, q2, q3⟩ := rl.tup_ok ry
    refine .inr (.inl ⟨a, b, vs, ws, e1, q1, e2, q2, fun z => hx ?_, by rw [← e3.length, ← q3.length]; exact hz, fun z => ?_, fun _ p hp => k.tup rl (e3.append q3) h hp⟩)
    · have := e3.length
      rw [z] at this
      exact List.eq_nil_of_length_eq_zero this
    · have := q3.length
      rw [z] at this
      have : ys = [] := List.eq_nil_of_length_eq_zero this
      subst this
      rw [List.append_nil] at h
      rw [← e1]
      exact k.val rl rx h
  · exact .inr (.inr (go h))

/-! ### == of plain data -/
mutual
def toP : D → PyData
  | .non => .none
  | .bl b => .bool b
  | .int i => .int i
  | .str x => .str x
  | .tup xs => .tuple (toPs xs)
  | .lst xs => .list (toPs xs)
  | .fls xs => .list (toPs xs)
  | .dic _ => .dict []
  | .ty _ => .dict []
  | .ad _ => .dict []
  | .obj _ _ => .dict []
  | .ref _ => .dict []
def toPs : List D → List PyData
  | [] => []
  | x :: xs => toP x :: toPs xs
end
theorem canLay_dict : PyData.canLay0 (.dict []) = false := by rfl
theorem canLayAll_cons {x : PyData} {xs : List PyData} (h : PyData.canLayAll0 (x :: xs) = true) : x.canLay0 = true ∧ PyData.canLayAll0 xs = true := Bool.and_eq_true_iff.mp (show (x.canLay0 && PyData.canLayAll0 xs) = true from h)
section
variable {K : PySem.W.Frag} {F G H : Hp} {E : Eta} {m : Mu}
mutual
theorem dp_of (r : Rl K F G H E m) : ∀ {d : D} {v : V}, Rp K F E d v → (toP d).canLay0 = true → Dp K H v (toP d)
  | _, _, .non, _ => .non
  | _, _, .bl b, _ => .bl b
  | _, _, .int i, _ => .int i
  | _, _, .str x, _ => .str x
  | _, _, .ty _, h => by simp [toP, canLay_dict] at h
  | _, _, .ad _, h => by simp [toP, canLay_dict] at h
  | _, _, .dic _ _, h => by simp [toP, canLay_dict] at h
  | _, _, .obj _ _ _, h => by simp [toP, canLay_dict] at h
  | _, _, .ref _, h => by simp [toP, canLay_dict] at h
  | .tup xs, _, .tup s t, h => by
    have h' : PyData.canLayAll0 (toPs xs) = true := by simpa [toP, PyData.canLay0] using h
    exact .tup (r.sub.sqT s) (dps_of r t h')
  | .lst xs, _, .lst s t, h => by
    have h' : PyData.canLayAll0 (toPs xs) = true := by simpa [toP, PyData.canLay0] using h
    exact .lst (SqL.of (r.sub _ _ s)) (dps_of r t h')
  | .fls xs, _, .fls s t, h => by
    have h' : PyData.canLayAll0 (toPs xs) = true := by simpa [toP, PyData.canLay0] using h
    exact .lst (r.sub.sqL s) (dps_of r t h')
theorem dps_of (r : Rl K F G H E m) : ∀ {ds : List D} {vs : List V}, Rps K F E ds vs → PyData.canLayAll0 (toPs ds) = true → DpAll K H vs (toPs ds)
  | _, _, .nil, _ => .nil
  | _, _, .cons p t, h => by
    have h' := canLayAll_cons (by simpa [toPs] using h)
    exact .cons (dp_of r p h'.1) (dps_of r t h'.2)
end
end
/-- the data behind a value; a list of the store is read -/
def datOf (d : D) (m : Mu) : D := match d with
  | .ref n => (match m[n]? with
    | some (.lst xs) => .lst xs
    | _ => d)
  | _ => d
theorem Rl.dat {K : PySem.W.Frag} {F G H : Hp} {E : Eta} {m : Mu} (r : Rl K F G H E m) {d : D} {v : V} (p : Rp K F E d v) (h : SeqAt.shaped (toP (datOf d m)) = true) : Dp K H v (toP (datOf d m)) := by
  have hc := SeqAt.canLay_of_shaped h
  cases d with
  | ref n =>
    cases e : m[n]? with
    | none => simp only [datOf, e] at hc; simp [toP, canLay_dict] at hc
    | some mo =>
      cases mo with
      | lst xs =>
        simp only [datOf, e] at hc ⊢
        obtain ⟨q, _, rfl, vs, a, b, _⟩ := r.ref_at p e
        have h' : PyData.canLayAll0 (toPs xs) = true := by simpa [toP, PyData.canLay0] using hc
        exact .lst (SqL.of a) (dps_of r b h')
      | _ => simp only [datOf, e] at hc; simp [toP, canLay_dict] at hc
  | _ => exact dp_of r p hc
def eqD (x y : D) : Bool := PyData.eqv (toP x) (toP y)
def shD (x : D) : Prop := SeqAt.shaped (toP x) = true
def dEq : DR2 := fun x y m R => shD (datOf x m) ∧ shD (datOf y m) ∧ R (.bl (eqD (datOf x m) (datOf y m))) m
def dNe : DR2 := fun x y m R => shD (datOf x m) ∧ shD (datOf y m) ∧ R (.bl (!eqD (datOf x m) (datOf y m))) m
theorem od_eq (hu : X.A.units + 64 < cLine) : OpD X (compareOp .Eq) dEq :=
  OpR.imp (op_eqD hu) fun x y H Q ⟨F, G, E, m, dx, dy, R, rl, rx, ry, ⟨h1, h2, h⟩, k⟩ => ⟨_, _, rl.dat rx h1, rl.dat ry h2, h1, h2, k.val rl (.bl _) h⟩
theorem od_ne (hu : X.A.units + 64 < cLine) : OpD X (compareOp .NotEq) dNe :=
  OpR.imp (op_neD hu) fun x y H Q ⟨F, G, E, m, dx, dy, R, rl, rx, ry, ⟨h1, h2, h⟩, k⟩ => ⟨_, _, rl.dat rx h1, rl.dat ry h2, h1, h2, k.val rl (.bl _) h⟩
/-- is None -/
def isNon : D → Bool
  | .non => true
  | _ => false
def dIs : DR2 := fun x y m R => y = .non ∧ R (.bl (isNon x)) m
def dIsNot : DR2 := fun x y m R => y = .non ∧ R (.bl (!isNon x)) m
theorem isNon_ok {K : PySem.W.Frag} {F : Hp} {E : Eta} {d : D} {v : V} (r : Rp K F E d v) : decide (v = .non) = isNon d := by cases r <;> rfl
theorem od_is : OpD X (compareOp .Is) dIs := OpR.imp op_isN fun x y H Q ⟨F, G, E, m, dx, dy, R, rl, rx, ry, ⟨h1, h⟩, k⟩ => by
  subst h1
  cases ry
  refine ⟨rfl, ?_⟩
  rw [isNon_ok rx]
  exact k.val rl (.bl _) h
theorem od_isnot : OpD X (compareOp .IsNot) dIsNot := OpR.imp op_notN fun x y H Q ⟨F, G, E, m, dx, dy, R, rl, rx, ry, ⟨h1, h⟩, k⟩ => by
  subst h1
  cases ry
  refine ⟨rfl, ?_⟩
  rw [isNon_ok rx]
  exact k.val rl (.bl _) h

/-! ### in -/
/-- an item that compares by its value -/
def flatD : D → Bool
  | .non | .bl _ | .int _ | .str _ => true
  | _ => false
def toV : D → V
  | .non => .non
  | .bl b => .bl b
  | .int i => .int i
  | .str x => .str x
  | _ => .non
theorem toV_ok {K : PySem.W.Frag} {F : Hp} {E : Eta} {d : D} {v : V} (r : Rp K F E d v) (h : flatD d = true) : v = toV d ∧ flatV v = true := by
  cases r <;> first | exact ⟨rfl, rfl⟩ | cases h
theorem toVs_ok {K : PySem.W.Frag} {F : Hp} {E : Eta} : ∀ {ds : List D} {vs : List V}, Rps K F E ds vs → ds.all flatD = true → vs = ds.map toV ∧ vs.all flatV = true
  | _, _, .nil, _ => ⟨rfl, rfl⟩
  | _, _, .cons r t, h => by
    rw [List.all_cons, Bool.and_eq_true] at h
    obtain ⟨a1, a2⟩ := toV_ok r h.1
    obtain ⟨b1, b2⟩ := toVs_ok t h.2
    subst a1 b1
    exact ⟨rfl, by rw [List.all_cons, a2, b2]; rfl⟩
def inD (x : D) (xs : List D) : Bool := inV (toV x) (xs.map toV)
def dInSeq (neg : Bool) : DR2 := fun x y m R => ∃ xs, seqOf y m = some xs ∧ flatD x = true ∧ xs.all flatD = true ∧ R (.bl (if neg then !inD x xs else inD x xs)) m
theorem od_inS : OpD X (compareOp .In) (dInSeq false) := OpR.imp op_in_seq fun x y H Q ⟨F, G, E, m, dx, dy, R, rl, rx, ry, ⟨xs, h1, h2, h3, h⟩, k⟩ => by
  obtain ⟨a, vs, rfl, sq, rv⟩ := rl.seq_ok ry h1
  obtain ⟨e1, f1⟩ := toV_ok rx h2
  obtain ⟨e2, f2⟩ := toVs_ok rv h3
  subst e1 e2
  exact ⟨a, _, rfl, sq, f1, f2, k.val rl (.bl _) h⟩
theorem od_notInS : OpD X (compareOp .NotIn) (dInSeq true) := OpR.imp op_notIn_seq fun x y H Q ⟨F, G, E, m, dx, dy, R, rl, rx, ry, ⟨xs, h1, h2, h3, h⟩, k⟩ => by
  obtain ⟨a, vs, rfl, sq, rv⟩ := rl.seq_ok ry h1
  obtain ⟨e1, f1⟩ := toV_ok rx h2
  obtain ⟨e2, f2⟩ := toVs_ok rv h3
  subst e1 e2
  exact ⟨a, _, rfl, sq, f1, f2, k.val rl (.bl _) h⟩
/-- one sign in a text -/
def dInSign : DR2 := fun x y m R => ∃ c z, x = .str ⟨#[c]⟩ ∧ y = .str z ∧ R (.bl (decide (c ∈ z.cps.toList))) m

/-! ### truth -/
def truD (m : Mu) : D → Option Bool
  | .non => some false
  | .bl b => some b
  | .int i => some (i != 0)
  | .str x => if x.length ≤ sizeLine then some ((x.length : Int) != 0) else none
  | d => (seqOf d m).map fun xs => !xs.isEmpty
def dTru (t : TDE) : TDT := fun δ m R => t δ m fun x m1 => ∃ k, truD m1 x = some k ∧ R k m1
theorem isEmpty_rps {K : PySem.W.Frag} {F : Hp} {E : Eta} {ds : List D} {vs : List V} (r : Rps K F E ds vs) : ds.isEmpty = vs.isEmpty := by cases r <;> rfl
theorem tru_lift {K : PySem.W.Frag} {t : TDE} {σ : L2.St} {H : Hp} {Q : Bool → Hp → Prop} (h : liftT K (dTru t) σ H Q) : liftE K t σ H fun x H1 => ∃ k, TruV K x H1 k ∧ Q k H1 := by
  obtain ⟨F, G, E, m, δ, R, rl, rs, h, k⟩ := h
  refine ⟨F, G, E, m, δ, _, rl, rs, h, fun d m1 F1 E1 H1 v f1 e1 rl1 rp1 ⟨b, h1, h2⟩ => ?_⟩
  refine ⟨b, ?_, k b m1 F1 E1 H1 f1 e1 rl1 h2⟩
  have sq : (seqOf d m1).map (fun xs => !xs.isEmpty) = some b → TruV K v H1 b := fun z => by
    obtain ⟨xs, hx, rfl⟩ := Option.map_eq_some_iff.mp z
    obtain ⟨a, vs, rfl, q, rv⟩ := rl1.seq_ok rp1 hx
    rw [isEmpty_rps rv]
    rcases q with q | q
    · exact .inl ⟨vs, q, rfl⟩
    · exact .inr (.inl ⟨vs, q, rfl⟩)
  cases d with
  | non => cases rp1; cases h1; rfl
  | bl b' => cases rp1; cases h1; rfl
  | int i => cases rp1; cases h1; rfl
  | str x =>
    cases rp1
    have h1' : (if x.length ≤ sizeLine then some ((x.length : Int) != 0) else none) = some b := h1
    by_cases hz : x.length ≤ sizeLine
    · rw [if_pos hz] at h1'
      exact ⟨hz, (Option.some.inj h1').symm⟩
    · rw [if_neg hz] at h1'; cases h1'
  | _ => exact sq h1
theorem dt_truth {a : Expr} {ta : TDE} (ha : DE X a ta) (he : ∀ whole, isTrue a X.env whole = (do let v ← whole; standAt a.pos; holding [v] (truthy v)) := by intro _; rfl) : DT X a (dTru ta) :=
  ⟨PT.imp (pt_truth ha.pe he) fun σ H Q h => tru_lift h⟩

/-! ### built-in calls by values -/
theorem cd_of {f : Value} {r : List V → Hp → VK → Prop} {g : DRs} (h : CallR X f r) (k : ∀ vs H Q F G E m ds R, Rl X.K F G H E m → Rps X.K F E ds vs → g ds m R → Cont X.K F G E R Q → r vs H Q) : CallD X f g :=
  CallR.imp h fun xs H Q ⟨F, G, E, m, ds, R, rl, rs, h, c⟩ => k xs H Q F G E m ds R rl rs h c
def dCall (g : DRs) (t : TDA) : TDE := fun δ m R => t δ m fun ds m1 => g ds m1 R
theorem lift_call {K : PySem.W.Frag} {g : DRs} {t : TDA} {σ : L2.St} {H : Hp} {Q : VK} (h : liftE K (dCall g t) σ H Q) : tCB (liftC K g) (liftA K t) σ H Q := by
  obtain ⟨F, G, E, m, δ, R, rl, rs, h, k⟩ := h
  exact ⟨F, G, E, m, δ, _, rl, rs, h, fun d m1 F1 E1 H1 v f1 e1 rl1 rp1 h1 => ⟨F1, G, E1, m1, d, R, rl1, rp1, h1, k.on f1 e1⟩⟩
theorem de_callB {x : Str} {id : String} {g : DRs} {e : Expr} {es : List Expr} {p pos : Pos} {t : TDA} (hc : CallD X (.builtin id) g) (hm : X.mg x = none) (hv : bootBuiltins x = some (.builtin id)) (ha : DA X (e :: es) t) (hg : Gl X x := by rfl) (hn : x ≠ "__name__" := by decide) (hdb : (x == ("__debug__" : Str)) = false := by decide)
    (he : starEach (e :: es) X.env = (false, eval e X.env) :: starEach es X.env := by rfl) (hpl : ((backTo pos (starEach es X.env)).any fun x => x.fst) = false := by rfl) : DE X (.Call (.Name x p) (e :: es) [] pos) (dCall g t) :=
  ⟨PE.imp (pe_callB (x := x) hc hg hm hv ha.pa hn hdb he hpl) fun σ H Q h => lift_call h⟩
theorem de_callTy {x : Str} {T : String} {g : DRs} {e : Expr} {es : List Expr} {p pos : Pos} {t : TDA} (hc : CallD X (.type T) g) (hm : X.mg x = none) (hv : bootBuiltins x = some (.type T)) (ha : DA X (e :: es) t) (hg : Gl X x := by rfl) (hn : x ≠ "__name__" := by decide) (hdb : (x == ("__debug__" : Str)) = false := by decide)
    (he : starEach (e :: es) X.env = (false, eval e X.env) :: starEach es X.env := by rfl) (hpl : ((backTo pos (starEach es X.env)).any fun x => x.fst) = false := by rfl) : DE X (.Call (.Name x p) (e :: es) [] pos) (dCall g t) :=
  ⟨PE.imp (pe_callTy (x := x) hc hg hm hv ha.pa hn hdb he hpl) fun σ H Q h => lift_call h⟩
theorem rps1 {K : PySem.W.Frag} {F : Hp} {E : Eta} {d : D} {vs : List V} (r : Rps K F E [d] vs) : ∃ v, vs = [v] ∧ Rp K F E d v := by
  cases r with
  | cons a b => cases b; exact ⟨_, rfl, a⟩
theorem rps2 {K : PySem.W.Frag} {F : Hp} {E : Eta} {d e : D} {vs : List V} (r : Rps K F E [d, e] vs) : ∃ v w, vs = [v, w] ∧ Rp K F E d v ∧ Rp K F E e w := by
  cases r with
  | cons a b =>
    cases b with
    | cons c b => cases b; exact ⟨_, _, rfl, a, c⟩
def lenOf (m : Mu) : D → Option Nat
  | .str x => if x.length ≤ sizeLine then some x.length else none
  | d => match seqOf d m with
    | some xs => some xs.length
    | none => none
def dLen : DRs := fun ds m R => ∃ d n, ds = [d] ∧ lenOf m d = some n ∧ R (.int n) m
theorem cd_len : CallD X (.builtin "len") dLen := cd_of call_len fun vs H Q F G E m ds R rl rs ⟨d, n, e, h1, h2⟩ c => by
  subst e
  obtain ⟨v, rfl, rp⟩ := rps1 rs
  refine ⟨v, n, rfl, ?_, c.val rl (.int _) h2⟩
  have sq : (match seqOf d m with | some xs => some xs.length | none => none) = some n → LenV X.K v H n := fun z => by
    cases e : seqOf d m with
    | none => rw [e] at z; cases z
    | some xs =>
      rw [e] at z
      cases z
      obtain ⟨a, ws, rfl, q, rv⟩ := rl.seq_ok rp e
      rw [rv.length]
      rcases q with q | q
      · exact .inl ⟨ws, q, rfl⟩
      · exact .inr ⟨ws, q, rfl⟩
  cases d with
  | str x =>
    cases rp
    have h1' : (if x.length ≤ sizeLine then some x.length else none) = some n := h1
    by_cases hz : x.length ≤ sizeLine
    · rw [if_pos hz] at h1'
      exact ⟨hz, (Option.some.inj h1').symm⟩
    · rw [if_neg hz] at h1'; cases h1'
  | _ => exact sq h1
theorem cd_abs : CallD X (.builtin "abs") (fun ds m R => ∃ i, ds = [.int i] ∧ R (.int (if i < 0 then -i else i)) m) := cd_of call_abs fun vs H Q F G E m ds R rl rs ⟨i, e, h⟩ c => by
  subst e
  obtain ⟨v, rfl, rp⟩ := rps1 rs
  cases rp
  exact ⟨i, rfl, c.val rl (.int _) h⟩
theorem cd_max (hc : X.calm = true) : CallD X (.builtin "max") (fun ds m R => ∃ i j, ds = [.int i, .int j] ∧ R (.int (if j > i then j else i)) m) := cd_of (call_max2 hc) fun vs H Q F G E m ds R rl rs ⟨i, j, e, h⟩ c => by
  subst e
  obtain ⟨v, w, rfl, rp, rq⟩ := rps2 rs
  cases rp
  cases rq
  exact ⟨i, j, rfl, c.val rl (.int _) h⟩
theorem cd_min (hc : X.calm = true) : CallD X (.builtin "min") (fun ds m R => ∃ i j, ds = [.int i, .int j] ∧ R (.int (if j < i then j else i)) m) := cd_of (call_min2 hc) fun vs H Q F G E m ds R rl rs ⟨i, j, e, h⟩ c => by
  subst e
  obtain ⟨v, w, rfl, rp, rq⟩ := rps2 rs
  cases rp
  cases rq
  exact ⟨i, j, rfl, c.val rl (.int _) h⟩
/-- int(int), int(bool) -/
def dInt : DRs := fun ds m R => match ds with
  | [.int i] => R (.int i) m
  | [.bl b] => R (.int (if b then 1 else 0)) m
  | _ => False
theorem cd_int : CallD X (.type "int") dInt := cd_of call_int1 fun vs H Q F G E m ds R rl rs h c => by
  unfold dInt at h
  split at h
  · obtain ⟨v, rfl, rp⟩ := rps1 rs
    cases rp
    exact .inl ⟨_, rfl, c.val rl (.int _) h⟩
  · obtain ⟨v, rfl, rp⟩ := rps1 rs
    cases rp
    exact .inr ⟨_, rfl, c.val rl (.int _) h⟩
  · exact h.elim
theorem cd_strI : CallD X (.type "str") (fun ds m R => ∃ i, ds = [.int i] ∧ i.natAbs.log2 < 1920 ∧ R (.str (toString i)) m) := cd_of call_str_int fun vs H Q F G E m ds R rl rs ⟨i, e, hz, h⟩ c => by
  subst e
  obtain ⟨v, rfl, rp⟩ := rps1 rs
  cases rp
  exact ⟨i, rfl, hz, c.val rl (.str _) h⟩
/-- tuple(list or tuple) -/
def dTupleOf : DRs := fun ds m R => ∃ d, ds = [d] ∧ match d with
  | .tup xs => R (.tup xs) m
  | .fls xs => R (.tup xs) m
  | d => ∃ xs, lstOf d m = some xs ∧ R (.tup xs) m
theorem cd_tuple : CallD X (.type "tuple") dTupleOf := cd_of call_tuple_of fun vs H Q F G E m ds R rl rs ⟨d, e, h⟩ c => by
  subst e
  obtain ⟨v, rfl, rp⟩ := rps1 rs
  have go : (∃ xs, lstOf d m = some xs ∧ R (.tup xs) m) → ∃ p ys, [v] = [V.ref p] ∧ ((SqL X.K H p ys ∧ ∀ (l : Addr), H l = none → Q (V.ref l) (upd H l (HO.tup ys))) ∨ SqT X.K H p ys ∧ Q (V.ref p) H) := fun ⟨xs, h1, h2⟩ => by
    obtain ⟨a, ws, rfl, q, rv⟩ := rl.lst_ok rp h1
    exact ⟨a, ws, rfl, .inl ⟨SqL.of q, fun l hl => c.tup rl rv h2 hl⟩⟩
  cases d with
  | tup ys =>
    obtain ⟨a, ws, rfl, q, rv⟩ := rl.tup_ok rp
    exact ⟨a, ws, rfl, .inr ⟨q, c.val rl rp h⟩⟩
  | fls ys =>
    cases rp with
    | fls e t => exact ⟨_, _, rfl, .inl ⟨rl.sub.sqL e, fun l hl => c.tup rl t h hl⟩⟩
  | _ => exact go h
end
end DL
set_option Elab.async false
set_option linter.all false
set_option maxRecDepth 100000
set_option maxHeartbeats 4000000
/-! D3: what is walked, for, while, list comprehensions. -/
namespace DL
open PySem PySem.Spec PyProof.Rows L2 SlX

/-- a walk: the items, what must stay true of the store at each turn -/
abbrev TDI := DS → Mu → (List D → (Mu → Prop) → Mu → Prop) → Prop
/-- J yields the items xs, whatever is added meanwhile -/
def Iter (K : PySem.W.Frag) (F : Hp) (E : Eta) (J : It) (xs : List D) (P : Mu → Prop) : Prop :=
  ∀ (F' G' H' : Hp) (E' : Eta) (m' : Mu), FSub F F' → ESub E E' → Rl K F' G' H' E' m' → P m' →
    (∀ (i : Nat) (d : D), xs[i]? = some d → J.go i H' ∧ ∀ v H2, J.yld i H' v H2 → ∃ F2, FSub F' F2 ∧ Rl K F2 G' H2 E' m' ∧ Rp K F2 E' d v) ∧ ∀ i, xs.length ≤ i → J.stop i H'
def liftI (K : PySem.W.Frag) (t : TDI) : TI := fun σ H R => ∃ F G E m δ RD, Rl K F G H E m ∧ RpS K F E δ σ ∧ t δ m RD ∧
  ∀ (xs : List D) (P : Mu → Prop) (m' : Mu) (F' : Hp) (E' : Eta) (H' : Hp) (J : It), FSub F F' → ESub E E' → Rl K F' G H' E' m' → Iter K F' E' J xs P → RD xs P m' → R J H'
structure DI (X : Cx) (tg iter : Expr) (t : TDI) : Prop where
  pi : PI X tg iter (liftI X.K t)
theorem PI.imp {X : Cx} {tg iter : Expr} {t t' : TI} (h : PI X tg iter t) (k : ∀ σ H R, t' σ H R → t σ H R) : PI X tg iter t' := ⟨fun pins s σ H R I z => h.run pins s σ H R I (k σ H R z)⟩
section
variable {K : PySem.W.Frag} {F F' G H : Hp} {E E' : Eta} {m : Mu} {J : It} {xs : List D} {P : Mu → Prop}
theorem Iter.on (h : Iter K F E J xs P) (f : FSub F F') (e : ESub E E') : Iter K F' E' J xs P := fun F2 G2 H2 E2 m2 f2 e2 => h F2 G2 H2 E2 m2 (f.trans f2) (e.trans e2)
theorem iter_tup {a : Addr} {vs : List V} (q : SqT K F a vs) (r : Rps K F E xs vs) : Iter K F E (Itt K a) xs fun _ => True := fun F' G' H' E' m' f e rl _ => by
  have q' : SqT K H' a vs := rl.sub.sqT (f.sqT q)
  refine ⟨fun i d hd => ?_, fun i hi => ⟨vs, q', by rw [← r.length]; exact hi⟩⟩
  obtain ⟨v, hv, rp⟩ := r.get hd
  refine ⟨⟨vs, v, q', hv⟩, fun x H2 ⟨e1, h⟩ => ?_⟩
  have := h vs q'
  rw [hv] at this
  cases this
  subst e1
  exact ⟨F', FSub.refl, rl, rp.mono f e⟩
theorem iter_lstF {a : Addr} {vs : List V} (q : SqL K F a vs) (r : Rps K F E xs vs) : Iter K F E (Itl K a) xs fun _ => True := fun F' G' H' E' m' f e rl _ => by
  have q' : SqL K H' a vs := rl.sub.sqL (f.sqL q)
  refine ⟨fun i d hd => ?_, fun i hi => ⟨vs, q', by rw [← r.length]; exact hi⟩⟩
  obtain ⟨v, hv, rp⟩ := r.get hd
  refine ⟨⟨vs, v, q', hv⟩, fun x H2 ⟨e1, h⟩ => ?_⟩
  have := h vs q'
  rw [hv] at this
  cases this
  subst e1
  exact ⟨F', FSub.refl, rl, rp.mono f e⟩
/-- a list of the store, that stands still meanwhile -/
theorem iter_lstM {n : Nat} {p : Addr × Addr} (hp : E[n]? = some p) : Iter K F E (Itl K p.1) xs fun m => m[n]? = some (.lst xs) := fun F' G' H' E' m' f e rl hm => by
  obtain ⟨vs, a1, r, _⟩ := rl.obj n p _ (e.get hp) hm
  have q' : SqL K H' p.1 vs := SqL.of a1
  refine ⟨fun i d hd => ?_, fun i hi => ⟨vs, q', by rw [← r.length]; exact hi⟩⟩
  obtain ⟨v, hv, rp⟩ := r.get hd
  refine ⟨⟨vs, v, q', hv⟩, fun x H2 ⟨e1, h⟩ => ?_⟩
  have := h vs q'
  rw [hv] at this
  cases this
  subst e1
  exact ⟨F', FSub.refl, rl, rp⟩
def rngD (lo : Int) (n : Nat) : List D := (List.range n).map fun (k : Nat) => .int (lo + (k : Int))
theorem rngD_len (lo : Int) (n : Nat) : (rngD lo n).length = n := by simp [rngD]
theorem iter_rng (lo : Int) (n : Nat) : Iter K F E (Itr lo n) (rngD lo n) fun _ => True := fun F' G' H' E' m' f e rl _ => by
  refine ⟨fun i d hd => ?_, fun i hi => by rw [rngD_len] at hi; exact hi⟩
  have hi : i < n := by
    have := (List.getElem?_eq_some_iff.mp hd).1
    rwa [rngD_len] at this
  have e1 : d = .int (lo + (i : Int)) := by
    have := (List.getElem?_eq_some_iff.mp hd).2
    simp [rngD] at this
    exact this.symm
  subst e1
  refine ⟨hi, fun v H2 ⟨e1, e2⟩ => ?_⟩
  subst e1 e2
  exact ⟨F', FSub.refl, rl, .int _⟩
def sgnD (x : Str) : List D := x.cps.toList.map fun c => .str ⟨#[c]⟩
theorem iter_str (x : Str) : Iter K F E (Its x) (sgnD x) fun _ => True := fun F' G' H' E' m' f e rl _ => by
  have hl : (sgnD x).length = x.cps.size := by simp [sgnD]
  refine ⟨fun i d hd => ?_, fun i hi => by rw [hl] at hi; exact hi⟩
  have hi : i < x.cps.size := by
    have := (List.getElem?_eq_some_iff.mp hd).1
    rwa [hl] at this
  refine ⟨hi, fun v H2 ⟨e1, c, ec, e2⟩ => ?_⟩
  subst e1 e2
  refine ⟨F', FSub.refl, rl, ?_⟩
  have : d = .str ⟨#[c]⟩ := by
    unfold sgnD at hd
    rw [List.getElem?_map, Array.getElem?_toList, ec] at hd
    simpa using hd.symm
  rw [this]
  exact .str _
end

/-! ### sources -/
section
variable {X : Cx} {tg l : Expr} {tl : TDE}
/-- a list or a tuple -/
def iSeq (K : PySem.W.Frag) (tl : TE) : TI := fun σ H R => tl σ H fun x H1 => ∃ a, x = .ref a ∧ (((∃ xs, SqL K H1 a xs) ∧ R (Itl K a) H1) ∨ ((∃ xs, SqT K H1 a xs) ∧ R (Itt K a) H1))
theorem pi_seq {tl : TE} (hl : PE X l tl) : PI X tg l (iSeq X.K tl) := by
  refine ⟨fun pins s σ H R I h => ?_⟩
  refine thn (hl.run pins s σ H _ I h) fun v s1 ⟨x, H1, I1, r1, q1⟩ => ?_
  obtain ⟨a, e, q1⟩ := q1
  subst e
  cases r1
  rcases q1 with ⟨⟨xs, hq⟩, q⟩ | ⟨⟨xs, hq⟩, q⟩
  · obtain ⟨its, rv, p, hz⟩ := I1.list hq
    refine wpAny_pyIter_list p.isList ?_
    refine ⟨s1.heap.objs.size, [s1.heap.objs.size], _, _, H1, rfl, I1.kept (t' := s1.toks) fun b o e => Heap.get?_push_of_some _ e, turn_list a _, ⟨_, Heap.get?_push_size _ rfl, rfl, rfl⟩, fun b hb => ?_, q⟩
    have e : b = s1.heap.objs.size := by simpa using hb
    subst e
    exact I1.fpOk (Nat.le_refl _) (I1.hok.fresh (Nat.le_refl _))
  · obtain ⟨its, rv, p, hz⟩ := I1.tuple hq
    refine wpAny_pyIter_tuple (show s1.heap.IsTuple a its.toArray from p) ?_
    refine ⟨s1.heap.objs.size, [s1.heap.objs.size], _, _, H1, rfl, I1.kept (t' := s1.toks) fun b o e => Heap.get?_push_of_some _ e, turn_tuple a _, ⟨_, Heap.get?_push_size _ rfl, rfl, rfl⟩, fun b hb => ?_, q⟩
    have e : b = s1.heap.objs.size := by simpa using hb
    subst e
    exact I1.fpOk (Nat.le_refl _) (I1.hok.fresh (Nat.le_refl _))
def dISeq (t : TDE) : TDI := fun δ m R => t δ m fun d m1 => match d with
  | .tup xs => R xs (fun _ => True) m1
  | .lst xs => R xs (fun _ => True) m1
  | .fls xs => R xs (fun _ => True) m1
  | .ref n => ∃ xs, m1[n]? = some (.lst xs) ∧ R xs (fun m => m[n]? = some (.lst xs)) m1
  | _ => False
theorem di_seq (hl : DE X l tl) : DI X tg l (dISeq tl) :=
  ⟨PI.imp (pi_seq hl.pe) fun σ H R ⟨F, G, E, m, δ, RD, rl, rs, h, k⟩ => ⟨F, G, E, m, δ, _, rl, rs, h, fun d m1 F1 E1 H1 v f1 e1 rl1 rp1 h1 => by
    cases d with
    | tup xs =>
      cases rp1 with
      | tup q t => exact ⟨_, rfl, .inr ⟨⟨_, rl1.sub.sqT q⟩, k xs _ m1 F1 E1 H1 _ f1 e1 rl1 (iter_tup q t) h1⟩⟩
    | lst xs =>
      cases rp1 with
      | lst q t => exact ⟨_, rfl, .inl ⟨⟨_, SqL.of (rl1.sub _ _ q)⟩, k xs _ m1 F1 E1 H1 _ f1 e1 rl1 (iter_lstF (SqL.of q) t) h1⟩⟩
    | fls xs =>
      cases rp1 with
      | fls q t => exact ⟨_, rfl, .inl ⟨⟨_, rl1.sub.sqL q⟩, k xs _ m1 F1 E1 H1 _ f1 e1 rl1 (iter_lstF q t) h1⟩⟩
    | ref n =>
      obtain ⟨xs, hm, h1⟩ := h1
      cases rp1 with
      | ref e =>
        obtain ⟨vs, a1, r, _⟩ := rl1.obj n _ _ e hm
        exact ⟨_, rfl, .inl ⟨⟨_, SqL.of a1⟩, k xs _ m1 F1 E1 H1 _ f1 e1 rl1 (iter_lstM e) h1⟩⟩
    | _ => exact h1.elim⟩⟩
def dIStr (t : TDE) : TDI := fun δ m R => t δ m fun d m1 => ∃ x, d = .str x ∧ R (sgnD x) (fun _ => True) m1
theorem di_str (hl : DE X l tl) : DI X tg l (dIStr tl) :=
  ⟨PI.imp (pi_str hl.pe) fun σ H R ⟨F, G, E, m, δ, RD, rl, rs, h, k⟩ => ⟨F, G, E, m, δ, _, rl, rs, h, fun d m1 F1 E1 H1 v f1 e1 rl1 rp1 ⟨x, ed, h1⟩ => by
    subst ed
    cases rp1
    exact ⟨x, rfl, k _ _ m1 F1 E1 H1 _ f1 e1 rl1 (iter_str x) h1⟩⟩⟩
def dIRng1 (t : TDA) : TDI := fun δ m R => t δ m fun ds m1 => ∃ j : Int, ds = [.int j] ∧ (-(2 ^ 62) ≤ j ∧ j < 2 ^ 62) ∧ R (rngD 0 j.toNat) (fun _ => True) m1
theorem di_range1 {a : Expr} {ta : TDA} {p pos : Pos} (hm : X.mg "range" = none) (ha : DA X [a] ta) (hg : Gl X "range" := by rfl) (hs : starEach [a] X.env = [(false, eval a X.env)] := by rfl) : DI X tg (.Call (.Name "range" p) [a] [] pos) (dIRng1 ta) :=
  ⟨PI.imp (pi_range1 hg hm ha.pa hs) fun σ H R ⟨F, G, E, m, δ, RD, rl, rs, h, k⟩ => ⟨F, G, E, m, δ, _, rl, rs, h, fun ds m1 F1 E1 H1 v f1 e1 rl1 rp1 ⟨j, ed, hj, h1⟩ => by
    subst ed
    obtain ⟨v, rfl, r⟩ := rps1 rp1
    cases r
    exact ⟨j, rfl, hj.1, hj.2, k _ _ m1 F1 E1 H1 _ f1 e1 rl1 (iter_rng 0 _) h1⟩⟩⟩
def dIRng2 (t : TDA) : TDI := fun δ m R => t δ m fun ds m1 => ∃ i j : Int, ds = [.int i, .int j] ∧ (-(2 ^ 62) ≤ i ∧ i < 2 ^ 62 ∧ -(2 ^ 62) ≤ j ∧ j < 2 ^ 62) ∧ R (rngD i (j - i).toNat) (fun _ => True) m1
theorem di_range2 {a b : Expr} {ta : TDA} {p pos : Pos} (hm : X.mg "range" = none) (ha : DA X [a, b] ta) (hg : Gl X "range" := by rfl) (hs : starEach [a, b] X.env = [(false, eval a X.env), (false, eval b X.env)] := by rfl) (hs2 : starEach [b] X.env = [(false, eval b X.env)] := by rfl) : DI X tg (.Call (.Name "range" p) [a, b] [] pos) (dIRng2 ta) :=
  ⟨PI.imp (pi_range2 hg hm ha.pa hs hs2) fun σ H R ⟨F, G, E, m, δ, RD, rl, rs, h, k⟩ => ⟨F, G, E, m, δ, _, rl, rs, h, fun ds m1 F1 E1 H1 v f1 e1 rl1 rp1 ⟨i, j, ed, hj, h1⟩ => by
    subst ed
    obtain ⟨v, w, rfl, r, r'⟩ := rps2 rp1
    cases r
    cases r'
    exact ⟨i, j, rfl, hj, k _ _ m1 F1 E1 H1 _ f1 e1 rl1 (iter_rng i _) h1⟩⟩⟩
end

/-! ### for -/
def forL (g : TDG) (tb : TDS) (D1 : DEnds) (P : Mu → Prop) : List D → DS → Mu → Prop
  | [], δ, m => P m ∧ D1.nx δ m
  | x :: xs, δ, m => P m ∧ g x δ m fun δ2 m2 => tb { D1 with nx := forL g tb D1 P xs, ct := forL g tb D1 P xs, bk := D1.nx } δ2 m2
def dFor (ti : TDI) (g : TDG) (tb : TDS) : TDS := fun D1 δ m => ti δ m fun xs P m1 => forL g tb D1 P xs δ m1
section
variable {X : Cx} {pos : Pos}
theorem dst_for {tg iter : Expr} {body : List Stmt} {ti : TDI} {g : TDG} {tb : TDS} (hp : PassesOwn (model X.prog X.w) X.A X.env X.xe) (hc : X.calm = true) (hi : DI X tg iter ti) (hg : DG X tg g) (hb : DSs X body tb)
    (hs : ∀ x, foldedSetIterable iter X.env x = pure x := by intro _; rfl) : DSt X (.For tg iter body [] pos) (dFor ti g tb) := by
  refine ⟨PS.imp (ps_for hp hc hi.pi hg.pg hb.ps hs) fun D σ H ⟨F, G, E, m, δ, R, rl, rs, h, k⟩ => ⟨F, G, E, m, δ, _, rl, rs, h, fun xs P m1 F1 E1 H1 J f1 e1 rl1 it h1 => ?_⟩⟩
  refine ⟨fun i n σ H => n = xs.length - i ∧ i ≤ xs.length ∧ ∃ F2 E2 m2 δ2, FSub F1 F2 ∧ ESub E1 E2 ∧ Rl X.K F2 G H E2 m2 ∧ RpS X.K F2 E2 δ2 σ ∧ forL g tb R P (xs.drop i) δ2 m2, ⟨xs.length, by simp, Nat.zero_le _, F1, E1, m1, δ, FSub.refl, ESub.refl, rl1, rs.mono f1 e1, h1⟩, ?_⟩
  rintro i n σ2 H2 ⟨rfl, hi, F2, E2, m2, δ2, f2, e2, rl2, rs2, h2⟩
  by_cases hlt : i < xs.length
  · rw [List.drop_eq_getElem_cons hlt] at h2
    obtain ⟨pm, h2⟩ := h2
    obtain ⟨items, _⟩ := it F2 G H2 E2 m2 f2 e2 rl2 pm
    obtain ⟨go, yld⟩ := items i xs[i] (List.getElem?_eq_getElem hlt)
    refine .inr ⟨go, fun σ H => ∃ F3 E3 m3 δ3, FSub F1 F3 ∧ ESub E1 E3 ∧ Rl X.K F3 G H E3 m3 ∧ RpS X.K F3 E3 δ3 σ ∧ forL g tb R P (xs.drop (i + 1)) δ3 m3, fun σ' H' h' => ⟨xs.length - (i + 1), by omega, rfl, hlt, h'⟩, fun v H3 y => ?_⟩
    obtain ⟨F3, f3, rl3, rp3⟩ := yld v H3 y
    refine ⟨F3, G, E2, m2, δ2, xs[i], _, rl3, rs2.mono f3 ESub.refl, rp3, h2, fun δ4 m4 F4 E4 H4 σ4 f4 e4 rl4 rs4 h4 => ?_⟩
    refine ⟨F4, G, E4, m4, δ4, _, rl4, rs4, h4, ?_⟩
    have fa : FSub F1 F4 := (f2.trans f3).trans f4
    have ea : ESub E1 E4 := e2.trans e4
    have ka := (k.on f1 e1).on fa ea
    have nx : ContN X.K F4 G E4 (forL g tb R P (xs.drop (i + 1))) fun σ H => ∃ F3 E3 m3 δ3, FSub F1 F3 ∧ ESub E1 E3 ∧ Rl X.K F3 G H E3 m3 ∧ RpS X.K F3 E3 δ3 σ ∧ forL g tb R P (xs.drop (i + 1)) δ3 m3 :=
      fun δ5 m5 F5 E5 H5 σ5 f5 e5 rl5 rs5 h5 => ⟨F5, E5, m5, δ5, fa.trans f5, ea.trans e5, rl5, rs5, h5⟩
    exact ⟨nx, ka.rt, ka.nx, nx⟩
  · have e : i = xs.length := by omega
    subst e
    rw [List.drop_length] at h2
    obtain ⟨pm, h2⟩ := h2
    obtain ⟨_, stop⟩ := it F2 G H2 E2 m2 f2 e2 rl2 pm
    exact .inl ⟨stop _ (Nat.le_refl _), ((k.on f1 e1).on f2 e2).nx.val rl2 rs2 h2⟩

/-! ### while -/
def dWhile (c : TDT) (tb : TDS) : TDS := fun D1 δ m => ∃ W : Nat → DS → Mu → Prop, (∃ n, W n δ m) ∧ ∀ n δ m, W n δ m →
  c δ m fun b m1 => if b = true then ∃ N : DS → Mu → Prop, (∀ δ' m', N δ' m' → ∃ n', n' < n ∧ W n' δ' m') ∧ tb { D1 with nx := N, ct := N, bk := D1.nx } δ m1 else D1.nx δ m1
theorem dst_while {c : Expr} {body : List Stmt} {tc : TDT} {tb : TDS} (hp : PassesOwn (model X.prog X.w) X.A X.env X.xe) (hc : DT X c tc) (hb : DSs X body tb) : DSt X (.While c body [] pos) (dWhile tc tb) := by
  refine ⟨PS.imp (ps_while hp hc.pt hb.ps) fun D σ H ⟨F, G, E, m, δ, R, rl, rs, ⟨W, ⟨n0, w0⟩, turn⟩, k⟩ => ?_⟩
  refine ⟨fun n σ H => ∃ F2 E2 m2 δ2, FSub F F2 ∧ ESub E E2 ∧ Rl X.K F2 G H E2 m2 ∧ RpS X.K F2 E2 δ2 σ ∧ W n δ2 m2, ⟨n0, F, E, m, δ, FSub.refl, ESub.refl, rl, rs, w0⟩, ?_⟩
  rintro n σ2 H2 ⟨F2, E2, m2, δ2, f2, e2, rl2, rs2, w2⟩
  refine ⟨F2, G, E2, m2, δ2, _, rl2, rs2, turn n δ2 m2 w2, fun b m3 F3 E3 H3 f3 e3 rl3 h3 => ?_⟩
  cases b with
  | true =>
    rw [if_pos rfl] at h3 ⊢
    obtain ⟨N, hN, h3⟩ := h3
    have fa := f2.trans f3
    have ea := e2.trans e3
    refine ⟨fun σ H => ∃ F4 E4 m4 δ4, FSub F F4 ∧ ESub E E4 ∧ Rl X.K F4 G H E4 m4 ∧ RpS X.K F4 E4 δ4 σ ∧ N δ4 m4, fun σ' H' ⟨F4, E4, m4, δ4, f4, e4, rl4, rs4, n4⟩ => ?_, F3, G, E3, m3, δ2, _, rl3, rs2.mono f3 e3, h3, ?_⟩
    · obtain ⟨n', hn, w'⟩ := hN δ4 m4 n4
      exact ⟨n', hn, F4, E4, m4, δ4, f4, e4, rl4, rs4, w'⟩
    · have nx : ContN X.K F3 G E3 N fun σ H => ∃ F4 E4 m4 δ4, FSub F F4 ∧ ESub E E4 ∧ Rl X.K F4 G H E4 m4 ∧ RpS X.K F4 E4 δ4 σ ∧ N δ4 m4 :=
        fun δ5 m5 F5 E5 H5 σ5 f5 e5 rl5 rs5 h5 => ⟨F5, E5, m5, δ5, fa.trans f5, ea.trans e5, rl5, rs5, h5⟩
      have ka := k.on fa ea
      exact ⟨nx, ka.rt, ka.nx, nx⟩
  | false =>
    rw [if_neg (by decide)] at h3 ⊢
    exact (k.on (f2.trans f3) (e2.trans e3)).nx.val rl3 (rs2.mono f3 e3) h3
end

/-! ### list comprehensions -/
def dwipe (δ : DS) : List Nat → DS
  | [] => δ
  | v :: vs => (dwipe δ vs).set v none
theorem dwipe_length (δ : DS) : ∀ vs : List Nat, (dwipe δ vs).length = δ.length
  | [] => rfl
  | v :: vs => by unfold dwipe; rw [List.length_set, dwipe_length δ vs]
theorem RpS.forget {K : PySem.W.Frag} {F : Hp} {E : Eta} {δ : DS} {σ : L2.St} (h : RpS K F E δ σ) (v : Nat) : RpS K F E (δ.set v none) (σ.set v none) := by
  refine ⟨by simpa using h.1, fun i d q => ?_⟩
  by_cases hi : v = i
  · subst hi
    by_cases hv : v < δ.length
    · rw [List.getElem?_set_self hv] at q; cases q
    · rw [List.getElem?_eq_none (by simpa using hv)] at q; cases q
  · rw [List.getElem?_set_ne hi] at q ⊢
    exact h.2 i d q
theorem RpS.wipe {K : PySem.W.Frag} {F : Hp} {E : Eta} {δ : DS} {σ : L2.St} (h : RpS K F E δ σ) : ∀ vs : List Nat, RpS K F E (dwipe δ vs) (L2.wipe σ vs)
  | [] => h
  | v :: vs => (RpS.wipe h vs).forget v
theorem wipe_set {σ : L2.St} {i : Nat} {x : Option V} : ∀ {vs : List Nat}, i ∈ vs → L2.wipe (σ.set i x) vs = L2.wipe σ vs
  | v :: vs, h => by
    unfold L2.wipe
    by_cases hv : i ∈ vs
    · rw [wipe_set hv]
    · have hi : v = i := by
        rcases List.mem_cons.mp h with e | e
        · exact e.symm
        · exact absurd e hv
      subst hi
      have : ∀ (ws : List Nat), v ∉ ws → L2.wipe (σ.set v x) ws = (L2.wipe σ ws).set v x := by
        intro ws
        induction ws with
        | nil => intro _; rfl
        | cons w ws ih =>
          intro hw
          unfold L2.wipe
          rw [ih (fun z => hw (List.mem_cons_of_mem _ z)), List.set_comm _ _ (fun z => hw (by rw [z]; exact List.mem_cons_self))]
      rw [this vs hv, List.set_set]
theorem wipe_wipe {σ : L2.St} : ∀ {vs ws : List Nat}, (∀ v ∈ ws, v ∈ vs) → L2.wipe (L2.wipe σ ws) vs = L2.wipe σ vs
  | vs, [], _ => rfl
  | vs, w :: ws, h => by
    show L2.wipe ((L2.wipe σ ws).set w none) vs = _
    rw [wipe_set (h w List.mem_cons_self)]
    exact wipe_wipe fun v hv => h v (List.mem_cons_of_mem _ hv)

/-- a comprehension's target: names of its own -/
structure DGc (X : Cx) (scope : Scope) (tg : Expr) (vs : List Nat) (g : TG) (gd : TDG) : Prop where
  pg : ∀ (s : Shared) (H : Hp) (C : Addr) (cl : List (Str × Addr)) (fp : List Addr), PG (X.blk s H scope (compEnvC scope cl C X.env) fp) tg g
  ok : ∀ (F G H : Hp) (E : Eta) (m : Mu) (d : D) (v : V) (δ : DS) (σ : L2.St) (R : DS → Mu → Prop) (Q : L2.St → Hp → Prop), Rl X.K F G H E m → RpS X.K F E δ σ → Rp X.K F E d v → gd d δ m R →
    (∀ σ2 δ2, RpS X.K F E δ2 σ2 → L2.wipe σ2 vs = L2.wipe σ vs → R δ2 m → Q σ2 H) → g v σ H Q
structure DGcs (X : Cx) (scope : Scope) (tg : List Expr) (vs : List Nat) (g : TGs) (gd : TDGs) : Prop where
  pg : ∀ (s : Shared) (H : Hp) (C : Addr) (cl : List (Str × Addr)) (fp : List Addr), PGs (X.blk s H scope (compEnvC scope cl C X.env) fp) tg g
  ok : ∀ (F G H : Hp) (E : Eta) (m : Mu) (d : List D) (v : List V) (δ : DS) (σ : L2.St) (R : DS → Mu → Prop) (Q : L2.St → Hp → Prop), Rl X.K F G H E m → RpS X.K F E δ σ → Rps X.K F E d v → gd d δ m R →
    (∀ σ2 δ2, RpS X.K F E δ2 σ2 → L2.wipe σ2 vs = L2.wipe σ vs → R δ2 m → Q σ2 H) → g v σ H Q
section
variable {X : Cx} {scope : Scope} {vs : List Nat}
theorem dgc_name (i : Nat) {x : Str} {pos : Pos} (hi : i ∈ vs) (h : ∀ (s : Shared) (H : Hp) (C : Addr) (cl : List (Str × Addr)) (fp : List Addr), PG (X.blk s H scope (compEnvC scope cl C X.env) fp) (.Name x pos) (gName i)) : DGc X scope (.Name x pos) vs (gName i) (dName i) :=
  ⟨h, fun F G H E m d v δ σ R Q rl rs rp hd k => k _ _ (rs.set i rp) (wipe_set hi) hd⟩
theorem dgcs_nil (h : ∀ (s : Shared) (H : Hp) (C : Addr) (cl : List (Str × Addr)) (fp : List Addr), PGs (X.blk s H scope (compEnvC scope cl C X.env) fp) [] gNil) : DGcs X scope [] vs gNil dGNil :=
  ⟨h, fun F G H E m d v δ σ R Q rl rs rp ⟨h1, h2⟩ k => by
    subst h1
    cases rp
    exact ⟨rfl, k σ δ rs rfl h2⟩⟩
theorem dgcs_cons {e : Expr} {es : List Expr} {g : TG} {gs : TGs} {gd : TDG} {gds : TDGs} (h1 : DGc X scope e vs g gd) (h2 : DGcs X scope es vs gs gds)
    (h : ∀ (s : Shared) (H : Hp) (C : Addr) (cl : List (Str × Addr)) (fp : List Addr), PGs (X.blk s H scope (compEnvC scope cl C X.env) fp) (e :: es) (gCons g gs)) : DGcs X scope (e :: es) vs (gCons g gs) (dGCons gd gds) :=
  ⟨h, fun F G H E m d v δ σ R Q rl rs rp ⟨x, r, ed, hd⟩ k => by
    subst ed
    cases rp with
    | cons r1 r2 =>
      refine ⟨_, _, rfl, h1.ok F G H E m x _ δ σ _ _ rl rs r1 hd fun σ2 δ2 rs2 w2 hd2 => ?_⟩
      exact h2.ok F G H E m r _ δ2 σ2 R Q rl rs2 r2 hd2 fun σ3 δ3 rs3 w3 hd3 => k σ3 δ3 rs3 (w3.trans w2) hd3⟩
theorem dgc_tup {es : List Expr} {k : Nat} {pos : Pos} {gs : TGs} {gds : TDGs} {n : Nat} (h1 : DGcs X scope es vs gs gds)
    (h : ∀ (s : Shared) (H : Hp) (C : Addr) (cl : List (Str × Addr)) (fp : List Addr), PG (X.blk s H scope (compEnvC scope cl C X.env) fp) (.Tuple es k pos) (gTup X.K n gs)) : DGc X scope (.Tuple es k pos) vs (gTup X.K n gs) (dGTup n gds) :=
  ⟨h, fun F G H E m d v δ σ R Q rl rs rp ⟨xs, ed, hl, hd⟩ kk => by
    subst ed
    obtain ⟨a, ws, rfl, q, rv⟩ := rl.tup_ok rp
    exact ⟨a, ws, rfl, q, by rw [← rv.length]; exact hl, h1.ok F G H E m xs ws δ σ R Q rl rs rv hd kk⟩⟩
end

def lcL (g : TDG) (tt : TDT) (te : TDE) (δ : DS) (P : Mu → Prop) (Rd : List D → Mu → Prop) : List D → List D → Mu → Prop
  | [], acc, m => P m ∧ Rd acc m
  | x :: xs, acc, m => P m ∧ g x δ m fun δ2 m2 => tt δ2 m2 fun b m3 => if b = true then te δ2 m3 fun y m4 => acc.length < sizeLine ∧ lcL g tt te δ P Rd xs (acc ++ [y]) m4 else lcL g tt te δ P Rd xs acc m3
def dLc (ti : TDI) (g : TDG) (tt : TDT) (te : TDE) (vs : List Nat) : TDE := fun δ m R => ti δ m fun xs P m1 => lcL g tt te (dwipe δ vs) P (fun acc m2 => R (.lst acc) m2) xs [] m1
def dYes : TDT := fun _ m R => R true m
structure DTs (X : Cx) (ifs : List Expr) (t : TDT) : Prop where
  pt : PTs X ifs (liftT X.K t)
section
variable {X : Cx} {pos : Pos}
theorem PTs.imp {ifs : List Expr} {t t' : TT} (h : PTs X ifs t) (k : ∀ σ H Q, t' σ H Q → t σ H Q) : PTs X ifs t' := ⟨fun pins s σ H Q I z => h.run pins s σ H Q I (k σ H Q z)⟩
theorem dts_nil : DTs X [] dYes := ⟨PTs.imp pts_nil fun σ H Q ⟨F, G, E, m, δ, R, rl, rs, h, k⟩ => k.val rl h⟩
theorem dts_one {c : Expr} {t : TDT} (h : DT X c t) : DTs X [c] t := ⟨pts_one h.pt⟩
theorem lc_lift {ti : TDI} {g : TG} {gd : TDG} {tt : TDT} {te : TDE} {vs : List Nat} {σ : L2.St} {H : Hp} {Q : VK} {scope : Scope} {tg : Expr} (hg : DGc X scope tg vs g gd) (h : liftE X.K (dLc ti gd tt te vs) σ H Q) : tLc (liftI X.K ti) g (liftT X.K tt) (liftE X.K te) vs σ H Q := by
  obtain ⟨F, G, E, m, δ, R, rl, rs, h, k⟩ := h
  refine ⟨F, G, E, m, δ, _, rl, rs, h, fun xs P m1 F1 E1 H1 J f1 e1 rl1 it h1 => fun D0 hD => ?_⟩
  have k1 := k.on f1 e1
  have rs1 := rs.mono f1 e1
  have gD : G D0 = none := (rl1.fresh hD).2.1
  let Wd := fun (acc : List D) (rest : List D) (H : Hp) => ∃ F2 E2 m2 ws, FSub F1 F2 ∧ ESub E1 E2 ∧ Rl X.K F2 (upd G D0 (.lst ws)) H E2 m2 ∧ Rps X.K F2 E2 acc ws ∧ lcL gd tt te (dwipe δ vs) P (fun acc m2 => R (.lst acc) m2) rest acc m2
  refine ⟨fun i n H => n = xs.length - i ∧ i ≤ xs.length ∧ ∃ acc, Wd acc (xs.drop i) H, ⟨xs.length, by simp, Nat.zero_le _, [], F1, E1, m1, [], FSub.refl, ESub.refl, rl1.kept hD, .nil, h1⟩, ?_⟩
  rintro i n H2 ⟨rfl, hi, acc, F2, E2, m2, ws, f2, e2, rl2, ra, h2⟩
  by_cases hlt : i < xs.length
  · rw [List.drop_eq_getElem_cons hlt] at h2
    obtain ⟨pm, h2⟩ := h2
    obtain ⟨items, _⟩ := it F2 _ H2 E2 m2 f2 e2 rl2 pm
    obtain ⟨go, yld⟩ := items i xs[i] (List.getElem?_eq_getElem hlt)
    refine .inr ⟨go, fun H => ∃ acc, Wd acc (xs.drop (i + 1)) H, fun H' h' => ⟨xs.length - (i + 1), by omega, rfl, hlt, h'⟩, fun v H3 y => ?_⟩
    obtain ⟨F3, f3, rl3, rp3⟩ := yld v H3 y
    refine hg.ok F3 _ H3 E2 m2 xs[i] v (dwipe δ vs) (L2.wipe σ vs) _ _ rl3 (((rs1.mono f2 e2).mono f3 ESub.refl).wipe vs) rp3 h2 fun σ4 δ4 rs4 w4 h4 => ?_
    refine ⟨by rw [w4, wipe_wipe (fun _ z => z)], F3, _, E2, m2, δ4, _, rl3, rs4, h4, fun b m5 F5 E5 H5 f5 e5 rl5 h5 => ?_⟩
    cases b with
    | true =>
      rw [if_pos rfl] at h5 ⊢
      refine ⟨F5, _, E5, m5, δ4, _, rl5, rs4.mono f5 e5, h5, fun d m6 F6 E6 H6 v6 f6 e6 rl6 rp6 ⟨hz, h6⟩ => ?_⟩
      have ra6 : Rps X.K F6 E6 acc ws := ((ra.mono f3 ESub.refl).mono f5 e5).mono f6 e6
      refine ⟨ws, rl6.gsub D0 _ upd_same, by rw [← ra6.length]; exact hz, acc ++ [d], F6, E6, m6, ws ++ [v6], ((f2.trans f3).trans f5).trans f6, (e2.trans e5).trans e6, rl6.rekept gD, ra6.append (.cons rp6 .nil), h6⟩
    | false =>
      rw [if_neg (by decide)] at h5 ⊢
      exact ⟨acc, F5, E5, m5, ws, (f2.trans f3).trans f5, e2.trans e5, rl5, (ra.mono f3 ESub.refl).mono f5 e5, h5⟩
  · have e : i = xs.length := by omega
    subst e
    rw [List.drop_length] at h2
    obtain ⟨pm, h2⟩ := h2
    obtain ⟨_, stop⟩ := it F2 _ H2 E2 m2 f2 e2 rl2 pm
    refine .inl ⟨stop _ (Nat.le_refl _), ?_⟩
    have fD : F2 D0 = none := rl2.fg D0 _ upd_same
    exact k1 (.lst acc) m2 _ E2 H2 (.ref D0) (f2.trans (FSub.upd fD)) e2 (rl2.unkept gD) (.lst upd_same (ra.mono (FSub.upd fD) ESub.refl)) h2
theorem de_lc {elt tg iter : Expr} {ifs : List Expr} {scope : Scope} {own : List (Str × Nat)} {ti : TDI} {g : TG} {gd : TDG} {tt : TDT} {te : TDE} (hc : X.calm = true) (hN : X.N.Nodup) (hi : DI X tg iter ti) (ok : BlkOk X.N X.env.scope scope own)
    (hg : DGc X scope tg (own.map (·.2)) g gd) (ht : ∀ (s : Shared) (H : Hp) (C : Addr) (cl : List (Str × Addr)) (fp : List Addr), DTs (X.blk s H scope (compEnvC scope cl C X.env) fp) ifs tt)
    (he : ∀ (s : Shared) (H : Hp) (C : Addr) (cl : List (Str × Addr)) (fp : List Addr), DE (X.blk s H scope (compEnvC scope cl C X.env) fp) elt te) (hs : ∀ x, foldedSetIterable iter X.env x = pure x := by intro _; rfl) :
    DE X (.ListComp elt [⟨tg, iter, ifs, 0⟩] scope pos) (dLc ti gd tt te (own.map (·.2))) :=
  ⟨PE.imp (pe_lc hc hN hi.pi ok hg.pg (fun s H C cl fp => (ht s H C cl fp).pt) (fun s H C cl fp => (he s H C cl fp).pe) hs) fun σ H Q h => lc_lift hg h⟩
/-- name = [..] on one line -/
theorem dst_setLc (i : Nat) {y : Str} {py spos : Pos} {elt tg iter : Expr} {ifs : List Expr} {scope : Scope} {own : List (Str × Nat)} {ti : TDI} {g : TG} {gd : TDG} {tt : TDT} {te : TDE} (hc : X.calm = true) (hN : X.N.Nodup) (hi : DI X tg iter ti) (ok : BlkOk X.N X.env.scope scope own)
    (hg : DGc X scope tg (own.map (·.2)) g gd) (ht : ∀ (s : Shared) (H : Hp) (C : Addr) (cl : List (Str × Addr)) (fp : List Addr), DTs (X.blk s H scope (compEnvC scope cl C X.env) fp) ifs tt)
    (he : ∀ (s : Shared) (H : Hp) (C : Addr) (cl : List (Str × Addr)) (fp : List Addr), DE (X.blk s H scope (compEnvC scope cl C X.env) fp) elt te)
    (hsw : swapsWith (.ListComp elt [⟨tg, iter, ifs, 0⟩] scope pos) (some (.Name y py)) spos.line X.env = pure true) (hy : X.N[i]? = some y := by rfl) (hyl : X.env.scope.names.lookup y = some .local := by rfl) (hs : ∀ x, foldedSetIterable iter X.env x = pure x := by intro _; rfl) :
    DSt X (.Assign [.Name y py] (.ListComp elt [⟨tg, iter, ifs, 0⟩] scope pos) spos) (dAsg (dLc ti gd tt te (own.map (·.2))) (dName i)) :=
  ⟨PS.imp (ps_setLc (i := i) hc hN hy hyl hsw hi.pi ok hg.pg (fun s H C cl fp => (ht s H C cl fp).pt) (fun s H C cl fp => (he s H C cl fp).pe) hs) fun D σ H ⟨F, G, E, m, δ, R, rl, rs, h, k⟩ => by
    refine lc_lift (Q := fun x H1 => gName i x σ H1 D.nx) hg ⟨F, G, E, m, δ, _, rl, rs, h, fun x m1 F1 E1 H1 v f1 e1 rl1 rp1 h1 => k.nx _ m1 F1 E1 H1 _ f1 e1 rl1 ((rs.mono f1 e1).set i rp1) h1⟩⟩
end
end DL
set_option Elab.async false
set_option linter.all false
set_option maxRecDepth 100000
set_option maxHeartbeats 4000000
/-! D4: defs and what they promise; what a def leaves behind. -/
namespace DL
open PySem PySem.Spec PyProof.Rows L2 SlX

/-! ### what a def leaves: objects of its own become values, or are dropped -/
mutual
def clD (L : Nat) : D → Bool
  | .ref n => decide (n < L)
  | .tup xs => clDs L xs
  | .lst xs => clDs L xs
  | .fls xs => clDs L xs
  | .dic xs => clDk L xs
  | .obj _ xs => clDs L xs
  | .non => true
  | .bl _ => true
  | .int _ => true
  | .str _ => true
  | .ty _ => true
  | .ad _ => true
def clDs (L : Nat) : List D → Bool
  | [] => true
  | x :: xs => clD L x && clDs L xs
def clDk (L : Nat) : List (Key × D) → Bool
  | [] => true
  | x :: xs => clD L x.2 && clDk L xs
end
def clMO (L : Nat) : MO → Bool
  | .lst xs => clDs L xs
  | .dic xs => clDk L xs
  | .ins _ fs => fs.all fun p => clD L p.2
  | .slt _ xs => xs.all fun o => match o with
    | some d => clD L d
    | none => true
  | .tbl _ => true
mutual
inductive Fz (L : Nat) (tl : List MO) : D → D → Prop where
  | cl {d : D} : clD L d = true → Fz L tl d d
  | tup {xs ys : List D} : Fzs L tl xs ys → Fz L tl (.tup xs) (.tup ys)
  | lst {xs ys : List D} : Fzs L tl xs ys → Fz L tl (.lst xs) (.lst ys)
  | obj {C : Addr} {xs ys : List D} : Fzs L tl xs ys → Fz L tl (.obj C xs) (.obj C ys)
  | lstR {n : Nat} {xs ys : List D} : L ≤ n → tl[n - L]? = some (.lst xs) → Fzs L tl xs ys → Fz L tl (.ref n) (.lst ys)
  | dicR {n : Nat} {xs ys : List (Key × D)} : L ≤ n → tl[n - L]? = some (.dic xs) → Fzk L tl xs ys → Fz L tl (.ref n) (.dic ys)
  | sltR {n : Nat} {C : Addr} {xs : List (Option D)} {ys : List D} : L ≤ n → tl[n - L]? = some (.slt C xs) → xs ≠ [] → Fzo L tl xs ys → Fz L tl (.ref n) (.obj C ys)
inductive Fzs (L : Nat) (tl : List MO) : List D → List D → Prop where
  | nil : Fzs L tl [] []
  | cons {x y : D} {xs ys : List D} : Fz L tl x y → Fzs L tl xs ys → Fzs L tl (x :: xs) (y :: ys)
inductive Fzk (L : Nat) (tl : List MO) : List (Key × D) → List (Key × D) → Prop where
  | nil : Fzk L tl [] []
  | cons {k : Key} {x y : D} {xs ys : List (Key × D)} : Fz L tl x y → Fzk L tl xs ys → Fzk L tl ((k, x) :: xs) ((k, y) :: ys)
inductive Fzo (L : Nat) (tl : List MO) : List (Option D) → List D → Prop where
  | nil : Fzo L tl [] []
  | cons {x y : D} {xs : List (Option D)} {ys : List D} : Fz L tl x y → Fzo L tl xs ys → Fzo L tl (some x :: xs) (y :: ys)
end
theorem Fzs.cl {L : Nat} {tl : List MO} : ∀ {xs : List D}, clDs L xs = true → Fzs L tl xs xs
  | [], _ => .nil
  | x :: xs, h => by
    have h' := Bool.and_eq_true_iff.mp (show (clD L x && clDs L xs) = true from h)
    exact .cons (.cl h'.1) (Fzs.cl h'.2)
theorem Fzk.cl {L : Nat} {tl : List MO} : ∀ {xs : List (Key × D)}, clDk L xs = true → Fzk L tl xs xs
  | [], _ => .nil
  | (k, x) :: xs, h => by
    have h' := Bool.and_eq_true_iff.mp (show (clD L x && clDk L xs) = true from h)
    exact .cons (.cl h'.1) (Fzk.cl h'.2)
section
variable {K : PySem.W.Frag} {F F' G H : Hp} {E E' : Eta} {L : Nat}
/-- closed values do not lean on what stands behind L -/
theorem take_get {E : Eta} {n : Nat} {p : Addr × Addr} (h : E[n]? = some p) (hn : n < L) : (E.take L)[n]? = some p := by rw [List.getElem?_take_of_lt hn]; exact h
mutual
theorem Rp.cut (f : FSub F F') : ∀ {d : D} {v : V}, Rp K F E d v → clD L d = true → Rp K F' (E.take L) d v
  | _, _, .non, _ => .non
  | _, _, .bl b, _ => .bl b
  | _, _, .int i, _ => .int i
  | _, _, .str x, _ => .str x
  | _, _, .ty n, _ => .ty n
  | _, _, .ad a, _ => .ad a
  | _, _, .tup h r, c => .tup (f.sqT h) (Rps.cut f r c)
  | _, _, .lst h r, c => .lst (f _ _ h) (Rps.cut f r c)
  | _, _, .fls h r, c => .fls (f.sqL h) (Rps.cut f r c)
  | _, _, .dic h r, c => .dic (f.rd h) (RpK.cut f r c)
  | _, _, .obj h1 h2 r, c => .obj (f _ _ h1) (f _ _ h2) (RpO.cut f r c)
  | _, _, .ref h, c => .ref (take_get h (of_decide_eq_true c))
theorem Rps.cut (f : FSub F F') : ∀ {d : List D} {v : List V}, Rps K F E d v → clDs L d = true → Rps K F' (E.take L) d v
  | _, _, .nil, _ => .nil
  | _, _, .cons r t, c => by
    have c' := Bool.and_eq_true_iff.mp c
    exact .cons (Rp.cut f r c'.1) (Rps.cut f t c'.2)
theorem RpK.cut (f : FSub F F') : ∀ {d : List (Key × D)} {v : List (Key × V)}, RpK K F E d v → clDk L d = true → RpK K F' (E.take L) d v
  | _, _, .nil, _ => .nil
  | _, _, .cons r t, c => by
    have c' := Bool.and_eq_true_iff.mp c
    exact .cons (Rp.cut f r c'.1) (RpK.cut f t c'.2)
theorem RpO.cut (f : FSub F F') : ∀ {d : List D} {v : List (Option V)}, RpO K F E d v → clDs L d = true → RpO K F' (E.take L) d v
  | _, _, .nil, _ => .nil
  | _, _, .cons r t, c => by
    have c' := Bool.and_eq_true_iff.mp c
    exact .cons (Rp.cut f r c'.1) (RpO.cut f t c'.2)
end
theorem RpF.cut (f : FSub F F') : ∀ {d : List (Str × D)} {v : List (Str × V)}, RpF K F E d v → (d.all fun p => clD L p.2) = true → RpF K F' (E.take L) d v
  | _, _, .nil, _ => .nil
  | _, _, .cons r t, c => by
    rw [List.all_cons, Bool.and_eq_true] at c
    exact .cons (r.cut f c.1) (RpF.cut f t c.2)
theorem RpQ.cut (f : FSub F F') : ∀ {d : List (Option D)} {v : List (Option V)}, RpQ K F E d v → (d.all fun o => match o with | Option.some d => clD L d | Option.none => true) = true → RpQ K F' (E.take L) d v
  | _, _, .nil, _ => .nil
  | _, _, .some r t, c => by
    rw [List.all_cons, Bool.and_eq_true] at c
    exact .some (r.cut f c.1) (RpQ.cut f t c.2)
  | _, _, .none t, c => by
    rw [List.all_cons, Bool.and_eq_true] at c
    exact .none (RpQ.cut f t c.2)
theorem MRel.cut (f : FSub F F') {p : Addr × Addr} {mo : MO} (h : MRel K F H E p mo) (c : clMO L mo = true) : MRel K F' H (E.take L) p mo := by
  cases mo with
  | lst xs => obtain ⟨vs, a, b, e⟩ := h; exact ⟨vs, a, b.cut f c, e⟩
  | dic xs => obtain ⟨vs, a, b, e⟩ := h; exact ⟨vs, a, b.cut f c, e⟩
  | ins C xs => obtain ⟨dx, vs, a, b, e⟩ := h; exact ⟨dx, vs, a, b.cut f c, e⟩
  | slt C xs => obtain ⟨vs, a, b, e⟩ := h; exact ⟨vs, a, b.cut f c, e⟩
  | tbl P => exact h
mutual
theorem Rp.closed : ∀ {d : D} {v : V}, Rp K F E d v → clD E.length d = true
  | _, _, .non => rfl
  | _, _, .bl b => rfl
  | _, _, .int i => rfl
  | _, _, .str x => rfl
  | _, _, .ty n => rfl
  | _, _, .ad a => rfl
  | _, _, .tup h r => Rps.closed r
  | _, _, .lst h r => Rps.closed r
  | _, _, .fls h r => Rps.closed r
  | _, _, .dic h r => RpK.closed r
  | _, _, .obj h1 h2 r => RpO.closed r
  | _, _, .ref h => decide_eq_true (List.getElem?_eq_some_iff.mp h).1
theorem Rps.closed : ∀ {d : List D} {v : List V}, Rps K F E d v → clDs E.length d = true
  | _, _, .nil => rfl
  | _, _, .cons r t => Bool.and_eq_true_iff.mpr ⟨Rp.closed r, Rps.closed t⟩
theorem RpK.closed : ∀ {d : List (Key × D)} {v : List (Key × V)}, RpK K F E d v → clDk E.length d = true
  | _, _, .nil => rfl
  | _, _, .cons r t => Bool.and_eq_true_iff.mpr ⟨Rp.closed r, RpK.closed t⟩
theorem RpO.closed : ∀ {d : List D} {v : List (Option V)}, RpO K F E d v → clDs E.length d = true
  | _, _, .nil => rfl
  | _, _, .cons r t => Bool.and_eq_true_iff.mpr ⟨Rp.closed r, RpO.closed t⟩
end
theorem RpF.closed : ∀ {d : List (Str × D)} {v : List (Str × V)}, RpF K F E d v → (d.all fun p => clD E.length p.2) = true
  | _, _, .nil => rfl
  | _, _, .cons r t => by rw [List.all_cons, r.closed, RpF.closed t]; rfl
theorem RpQ.closed : ∀ {d : List (Option D)} {v : List (Option V)}, RpQ K F E d v → (d.all fun o => match o with | Option.some d => clD E.length d | Option.none => true) = true
  | _, _, .nil => rfl
  | _, _, .some r t => by rw [List.all_cons, RpQ.closed t, Bool.and_true]; exact r.closed
  | _, _, .none t => by rw [List.all_cons, RpQ.closed t]; rfl
theorem MRel.closed {p : Addr × Addr} {mo : MO} (h : MRel K F H E p mo) : clMO E.length mo = true := by
  cases mo with
  | lst xs => obtain ⟨vs, a, b, e⟩ := h; exact b.closed
  | dic xs => obtain ⟨vs, a, b, e⟩ := h; exact b.closed
  | ins C xs => obtain ⟨dx, vs, a, b, e⟩ := h; exact b.closed
  | slt C xs => obtain ⟨vs, a, b, e⟩ := h; exact b.closed
  | tbl P => rfl
mutual
theorem clD.mono {L L' : Nat} (h : L ≤ L') : ∀ {d : D}, clD L d = true → clD L' d = true
  | .non, _ => rfl
  | .bl _, _ => rfl
  | .int _, _ => rfl
  | .str _, _ => rfl
  | .ty _, _ => rfl
  | .ad _, _ => rfl
  | .tup xs, c => clDs.mono h (show clDs L xs = true from c)
  | .lst xs, c => clDs.mono h (show clDs L xs = true from c)
  | .fls xs, c => clDs.mono h (show clDs L xs = true from c)
  | .dic xs, c => clDk.mono h (show clDk L xs = true from c)
  | .obj _ xs, c => clDs.mono h (show clDs L xs = true from c)
  | .ref n, c => decide_eq_true (Nat.lt_of_lt_of_le (of_decide_eq_true (show decide (n < L) = true from c)) h)
theorem clDs.mono {L L' : Nat} (h : L ≤ L') : ∀ {d : List D}, clDs L d = true → clDs L' d = true
  | [], _ => rfl
  | x :: xs, c => by
    have c' := Bool.and_eq_true_iff.mp (show (clD L x && clDs L xs) = true from c)
    exact Bool.and_eq_true_iff.mpr ⟨clD.mono h c'.1, clDs.mono h c'.2⟩
theorem clDk.mono {L L' : Nat} (h : L ≤ L') : ∀ {d : List (Key × D)}, clDk L d = true → clDk L' d = true
  | [], _ => rfl
  | x :: xs, c => by
    have c' := Bool.and_eq_true_iff.mp (show (clD L x.2 && clDk L xs) = true from c)
    exact Bool.and_eq_true_iff.mpr ⟨clD.mono h c'.1, clDk.mono h c'.2⟩
end
theorem clMO.mono {L L' : Nat} (h : L ≤ L') {mo : MO} (c : clMO L mo = true) : clMO L' mo = true := by
  cases mo with
  | lst xs => exact clDs.mono h c
  | dic xs => exact clDk.mono h c
  | ins C xs =>
    exact List.all_eq_true.mpr fun p hp => clD.mono h (List.all_eq_true.mp (show (xs.all fun p => clD L p.2) = true from c) p hp)
  | slt C xs =>
    refine List.all_eq_true.mpr fun p hp => ?_
    have := List.all_eq_true.mp (show (xs.all fun o => match o with | some d => clD L d | none => true) = true from c) p hp
    cases p with
    | none => rfl
    | some d => exact clD.mono h this
  | tbl P => rfl
end

/-- the result and the store as the caller sees them -/
def Fin (m : Mu) (R : D → Mu → Prop) (d : D) (m2 : Mu) : Prop := R d m2 ∨ ∃ L d', m.length ≤ L ∧ L ≤ m2.length ∧ Fz L (m2.drop L) d d' ∧
  (∀ (i : Nat) (mo : MO), i < L → m2[i]? = some mo → m[i]? = some mo ∨ clMO L mo = true) ∧ R d' (m2.take L)
theorem Fin.same {m : Mu} {R : D → Mu → Prop} {d : D} {m2 : Mu} (h : R d m2) : Fin m R d m2 := .inl h
theorem Fin.drop {m : Mu} {R : D → Mu → Prop} {d d' : D} {tl : Mu} (h : Fz m.length tl d d') (r : R d' m) : Fin m R d (m ++ tl) :=
  .inr ⟨m.length, d', Nat.le_refl _, by simp, by simpa using h, fun i mo hi e => .inl (by rwa [List.getElem?_append_left hi] at e), by simpa using r⟩
/-- the objects of the tail, now of what never changes -/
def tailF (F H : Hp) (T : Eta) : Hp := fun b => match F b with
  | some o => some o
  | none => if T.any (fun p => p.1 == b || p.2 == b) = true then H b else none
section
variable {K : PySem.W.Frag} {F G H : Hp} {E : Eta} {m : Mu} {L : Nat}
theorem tailF_sub {T : Eta} : FSub F (tailF F H T) := fun b o e => by unfold tailF; rw [e]
theorem Fz.ok (rl : Rl K F G H E m) (hL : L ≤ m.length) : ∀ {d d' : D} {v : V}, Fz L (m.drop L) d d' → Rp K F E d v → Rp K (tailF F H (E.drop L)) (E.take L) d' v := by
  have F2 : FSub F (tailF F H (E.drop L)) := tailF_sub
  have key : ∀ {n : Nat} {p : Addr × Addr}, E[n]? = some p → L ≤ n → ∀ b o, (b = p.1 ∨ b = p.2) → H b = some o → tailF F H (E.drop L) b = some o := fun {n p} hp hn b o hb ho => by
    obtain ⟨d1, d2, _, _⟩ := rl.dis n p hp
    have fb : F b = none := by rcases hb with rfl | rfl <;> assumption
    unfold tailF
    rw [fb]
    have hm : p ∈ E.drop L := by
      refine List.mem_of_getElem? (i := n - L) ?_
      rw [List.getElem?_drop, show L + (n - L) = n by omega]
      exact hp
    have : (E.drop L).any (fun p => p.1 == b || p.2 == b) = true := by
      rw [List.any_eq_true]
      refine ⟨p, hm, ?_⟩
      rcases hb with rfl | rfl <;> simp
    show (if _ then H b else none) = some o
    rw [if_pos this]
    exact ho
  have at_ : ∀ {n : Nat} {mo : MO} {p : Addr × Addr}, L ≤ n → (m.drop L)[n - L]? = some mo → E[n]? = some p → MRel K F H E p mo := fun {n mo p} hn hm hp => by
    rw [List.getElem?_drop, show L + (n - L) = n by omega] at hm
    exact rl.obj n p mo hp hm
  intro d d' v h
  exact Fz.rec (motive_1 := fun d d' _ => ∀ v, Rp K F E d v → Rp K (tailF F H (E.drop L)) (E.take L) d' v) (motive_2 := fun d d' _ => ∀ v, Rps K F E d v → Rps K (tailF F H (E.drop L)) (E.take L) d' v)
    (motive_3 := fun d d' _ => ∀ v, RpK K F E d v → RpK K (tailF F H (E.drop L)) (E.take L) d' v) (motive_4 := fun d d' _ => ∀ v, RpQ K F E d v → RpO K (tailF F H (E.drop L)) (E.take L) d' v)
    (fun c v r => r.cut F2 c)
    (fun _ ih v r => by
      cases r with
      | tup q t => exact .tup (F2.sqT q) (ih _ t))
    (fun _ ih v r => by
      cases r with
      | lst q t => exact .lst (F2 _ _ q) (ih _ t))
    (fun {C xs ys} _ ih v r => by
      cases r with
      | obj q1 q2 t =>
        refine .obj (F2 _ _ q1) (F2 _ _ q2) ?_
        clear q1 q2
        have conv : ∀ {xs : List D} {vs : List (Option V)}, RpO K F E xs vs → ∃ ws, vs = ws.map some ∧ Rps K F E xs ws := by
          intro xs vs h
          induction xs generalizing vs with
          | nil => cases h; exact ⟨[], rfl, .nil⟩
          | cons x xs ih =>
            cases h with
            | cons a b =>
              obtain ⟨ws, e, t⟩ := ih b
              exact ⟨_ :: ws, by rw [e]; rfl, .cons a t⟩
        have back : ∀ {F : Hp} {E : Eta} {xs : List D} {ws : List V}, Rps K F E xs ws → RpO K F E xs (ws.map some) := by
          intro F E xs ws h
          induction xs generalizing ws with
          | nil => cases h; exact .nil
          | cons x xs ih =>
            cases h with
            | cons a b => exact .cons a (ih b)
        obtain ⟨ws, rfl, t'⟩ := conv t
        exact back (ih _ t'))
    (fun hn hm _ ih v r => by
      cases r with
      | ref e =>
        obtain ⟨vs, a, b, _⟩ := at_ hn hm e
        exact .lst (key e hn _ _ (.inl rfl) a) (ih _ b))
    (fun hn hm _ ih v r => by
      cases r with
      | ref e =>
        obtain ⟨vs, a, b, _⟩ := at_ hn hm e
        exact .dic (.inl (key e hn _ _ (.inl rfl) a)) (ih _ b))
    (fun hn hm hx _ ih v r => by
      cases r with
      | ref e =>
        obtain ⟨vs, a, b, c, _⟩ := at_ hn hm e
        rcases a with ⟨_, a2⟩ | ⟨a1, a2⟩
        · subst a2
          cases b
          exact absurd rfl hx
        · exact .obj (key e hn _ _ (.inl rfl) a1) (key e hn _ _ (.inr rfl) a2) (ih _ b))
    (fun v r => by cases r; exact .nil)
    (fun _ _ ih1 ih2 v r => by
      cases r with
      | cons a b => exact .cons (ih1 _ a) (ih2 _ b))
    (fun v r => by cases r; exact .nil)
    (fun _ _ ih1 ih2 v r => by
      cases r with
      | cons a b => exact .cons (ih1 _ a) (ih2 _ b))
    (fun v r => by cases r; exact .nil)
    (fun _ _ ih1 ih2 v r => by
      cases r with
      | some a b => exact .cons (ih1 _ a) (ih2 _ b))
    h v
theorem Rl.cut (rl : Rl K F G H E m) (hL : L ≤ m.length) (c : ∀ (i : Nat) (mo : MO), i < L → m[i]? = some mo → clMO L mo = true) : Rl K (tailF F H (E.drop L)) G H (E.take L) (m.take L) := by
  have get : ∀ {i : Nat} {p : Addr × Addr}, (E.take L)[i]? = some p → E[i]? = some p ∧ i < L := fun {i p} e => by
    have h1 : i < L := by
      have := (List.getElem?_eq_some_iff.mp e).1
      rw [List.length_take] at this
      omega
    rw [List.getElem?_take_of_lt h1] at e
    exact ⟨e, h1⟩
  have tl : ∀ {b : Addr}, (E.drop L).any (fun p => p.1 == b || p.2 == b) = true → ∃ n p, L ≤ n ∧ E[n]? = some p ∧ (b = p.1 ∨ b = p.2) := fun {b} h => by
    obtain ⟨p, hp, hb⟩ := List.any_eq_true.mp h
    obtain ⟨n, hn⟩ := List.getElem?_of_mem hp
    rw [List.getElem?_drop] at hn
    refine ⟨L + n, p, Nat.le_add_right _ _, hn, ?_⟩
    rcases Bool.or_eq_true_iff.mp hb with e | e
    · exact .inl (beq_iff_eq.mp e).symm
    · exact .inr (beq_iff_eq.mp e).symm
  have at_ : ∀ {b : Addr} {o : HO}, tailF F H (E.drop L) b = some o → F b = some o ∨ (F b = none ∧ H b = some o ∧ ∃ n p, L ≤ n ∧ E[n]? = some p ∧ (b = p.1 ∨ b = p.2)) := fun {b o} h => by
    unfold tailF at h
    cases e : F b with
    | some u => rw [e] at h; exact .inl h
    | none =>
      rw [e] at h
      by_cases q : (E.drop L).any (fun p => p.1 == b || p.2 == b) = true
      · have h' : (if (E.drop L).any (fun p => p.1 == b || p.2 == b) = true then H b else none) = some o := h
        rw [if_pos q] at h'
        exact .inr ⟨rfl, h', tl q⟩
      · have h' : (if (E.drop L).any (fun p => p.1 == b || p.2 == b) = true then H b else none) = some o := h
        rw [if_neg q] at h'
        cases h'
  refine ⟨fun b o e => ?_, rl.gsub, fun b o e => ?_, by simp [rl.len], fun i p mo e1 e2 => ?_, fun i p e => ?_, fun i j p q e1 e2 ne => rl.sep i j p q (get e1).1 (get e2).1 ne⟩
  · rcases at_ e with h | ⟨_, h, _⟩
    · exact rl.sub b o h
    · exact h
  · cases q : tailF F H (E.drop L) b with
    | none => rfl
    | some u =>
      rcases at_ q with h | ⟨_, _, n, p, _, hp, hb⟩
      · rw [rl.fg b o e] at h; cases h
      · obtain ⟨_, _, d3, d4⟩ := rl.dis n p hp
        rcases hb with rfl | rfl
        · rw [d3] at e; cases e
        · rw [d4] at e; cases e
  · obtain ⟨e1, hi⟩ := get e1
    rw [List.getElem?_take_of_lt hi] at e2
    exact (rl.obj i p mo e1 e2).cut tailF_sub (c i mo hi e2)
  · obtain ⟨e, hi⟩ := get e
    obtain ⟨d1, d2, d3, d4⟩ := rl.dis i p e
    refine ⟨?_, ?_, d3, d4⟩
    · cases q : tailF F H (E.drop L) p.1 with
      | none => rfl
      | some u =>
        rcases at_ q with h | ⟨_, _, n, r, hn, hr, hb⟩
        · rw [d1] at h; cases h
        · obtain ⟨s1, s2, _, _⟩ := rl.sep i n p r e hr (by omega)
          rcases hb with z | z
          · exact absurd z s1
          · exact absurd z s2
    · cases q : tailF F H (E.drop L) p.2 with
      | none => rfl
      | some u =>
        rcases at_ q with h | ⟨_, _, n, r, hn, hr, hb⟩
        · rw [d2] at h; cases h
        · obtain ⟨_, _, s1, s2⟩ := rl.sep i n p r e hr (by omega)
          rcases hb with z | z
          · exact absurd z s1
          · exact absurd z s2
theorem Fin.ok {m0 : Mu} {F0 H0 G0 : Hp} {E0 : Eta} {R : D → Mu → Prop} {d : D} {v : V} (rl0 : Rl K F0 G0 H0 E0 m0) (rl : Rl K F G H E m) (f : FSub F0 F) (e : ESub E0 E) (r : Rp K F E d v) (h : Fin m0 R d m) :
    ∃ d' m' F' E', FSub F F' ∧ ESub E0 E' ∧ Rl K F' G H E' m' ∧ Rp K F' E' d' v ∧ R d' m' := by
  rcases h with h | ⟨L, d', h1, h2, fz, c, h⟩
  · exact ⟨d, m, F, E, FSub.refl, e, rl, r, h⟩
  · refine ⟨d', m.take L, _, E.take L, tailF_sub, ?_, rl.cut h2 (fun i mo hi hm => ?_), fz.ok rl h2 r, h⟩
    · obtain ⟨T, rfl⟩ := e
      rw [List.take_append, List.take_of_length_le (by rw [rl0.len]; exact h1)]
      exact ⟨_, rfl⟩
    · rcases c i mo hi hm with c | c
      · obtain ⟨p, _, x⟩ := rl0.mo c
        exact clMO.mono (by rw [rl0.len]; exact h1) x.closed
      · exact c
end
end DL
set_option Elab.async false
set_option linter.all false
set_option maxRecDepth 100000
set_option maxHeartbeats 4000000
/-! D5: calls of defs and classes, instances, isinstance. -/
namespace DL
open PySem PySem.Spec PyProof.Rows L2 SlX

def spD (K : PySem.W.Frag) (spec : DRs) : Sp := fun vs H Q _ => liftC K spec vs H Q
/-- what stands at a may be called: spec tells what comes of it -/
structure GD (P : Program) (w : World) (K : PySem.W.Frag) (mg : Str → Option Value) (base : Heap) (k : Nat) (a : Addr) (spec : DRs) : Prop where
  kp : PySem.W.keepIn K (.ref a) = true
  run : ∀ X : Cx, X.prog = P → X.w = w → X.K = K → X.mg = mg → X.base = base → Room k X.A → CallD X (.ref a) spec
section
variable {P : Program} {w : World} {K : PySem.W.Frag} {mg : Str → Option Value} {base : Heap} {j k : Nat} {a f C : Addr} {spec spec' : DRs}
theorem GD.mono (g : GD P w K mg base j a spec) (h : j ≤ k) : GD P w K mg base k a spec := ⟨g.kp, fun X h1 h2 h3 h4 h5 hr => g.run X h1 h2 h3 h4 h5 (hr.mono h)⟩
theorem GD.imp (g : GD P w K mg base k a spec) (h : ∀ ds m R, spec' ds m R → spec ds m R) : GD P w K mg base k a spec' :=
  ⟨g.kp, fun X h1 h2 h3 h4 h5 hr => CallR.imp (g.run X h1 h2 h3 h4 h5 hr) fun xs H Q ⟨F, G, E, m, ds, R, rl, rs, q, c⟩ => ⟨F, G, E, m, ds, R, rl, rs, h ds m R q, c⟩⟩
theorem gd_fn (F : FnR P w K mg base CX0 k f (spD K spec)) (kp : PySem.W.keepIn K (.ref f) = true) : GD P w K mg base k f spec :=
  ⟨kp, fun X h1 h2 h3 h4 h5 hr => by
    subst h1 h2 h3 h4 h5
    exact fun pins s σ H xs us Q I r h => wpAny_call (run_fnR (E := E0) F hr pass0 I r h)⟩
/-- a class: its __init__ at a new instance -/
def mkS (C : Addr) (init : DRs) (inst : MO) : DRs := fun ds m R => init (.ref m.length :: ds) (m ++ [inst]) fun r m2 => r = .non ∧ R (.ref m.length) m2
theorem gd_makeI (M : Mk K C f) (F : FnR P w K mg base CX0 k f (spD K spec)) : GD P w K mg base (k + 1) C (mkS C spec (.ins C [])) :=
  ⟨M.kp, fun X h1 h2 h3 h4 h5 hr => by
    subst h1 h2 h3 h4 h5
    refine fun pins s σ H xs us Q I r ⟨F1, G, E, m, ds, R, rl, rs, h, c⟩ => StX.run_makeR (E := E0) M F hr pass0 I r fun x dx hx hd ne => ?_
    have gr : ∀ b o, H b = some o → upd (upd H dx (.own x)) x (.ins C dx []) b = some o := fun b o e => by rw [upd_ne (ne_of_none e hx), upd_ne (ne_of_none e hd)]; exact e
    have rl' : Rl X.K F1 G (upd (upd H dx (.own x)) x (.ins C dx [])) (E ++ [(x, x)]) (m ++ [.ins C []]) := rl.alloc gr hx hx ⟨dx, [], upd_same, .nil, rfl⟩
    have at_ : (E ++ [(x, x)])[m.length]? = some (x, x) := by rw [← rl.len, List.getElem?_append_right (Nat.le_refl _)]; simp
    refine ⟨F1, G, _, _, .ref m.length :: ds, _, rl', .cons (.ref at_) (rs.mono FSub.refl ⟨_, rfl⟩), h, fun d m' F' E' H' v f' e' rl2 rp2 ⟨ed, h2⟩ => ?_⟩
    subst ed
    cases rp2
    exact ⟨rfl, c _ m' F' E' H' _ f' (ESub.trans ⟨_, rfl⟩ e') rl2 (.ref (p := (x, x)) (e'.get at_)) h2⟩⟩
theorem gd_makeS (M : Mk K C f) (F : FnR P w K mg base CX0 k f (spD K spec)) : GD P w K mg base (k + 1) C (mkS C spec (.slt C [])) :=
  ⟨M.kp, fun X h1 h2 h3 h4 h5 hr => by
    subst h1 h2 h3 h4 h5
    refine fun pins s σ H xs us Q I r ⟨F1, G, E, m, ds, R, rl, rs, h, c⟩ => StX.run_makeR (E := E0) M F hr pass0 I r fun x dx hx hd ne => ?_
    have gr : ∀ b o, H b = some o → upd (upd H dx (.own x)) x (.ins C dx []) b = some o := fun b o e => by rw [upd_ne (ne_of_none e hx), upd_ne (ne_of_none e hd)]; exact e
    have rl' : Rl X.K F1 G (upd (upd H dx (.own x)) x (.ins C dx [])) (E ++ [(x, dx)]) (m ++ [.slt C []]) := rl.alloc gr hx hd ⟨[], .inl ⟨upd_same, rfl⟩, .nil, ne, ⟨_, by rw [upd_ne ne, upd_same]⟩⟩
    have at_ : (E ++ [(x, dx)])[m.length]? = some (x, dx) := by rw [← rl.len, List.getElem?_append_right (Nat.le_refl _)]; simp
    refine ⟨F1, G, _, _, .ref m.length :: ds, _, rl', .cons (.ref (p := (x, dx)) at_) (rs.mono FSub.refl ⟨_, rfl⟩), h, fun d m' F' E' H' v f' e' rl2 rp2 ⟨ed, h2⟩ => ?_⟩
    subst ed
    cases rp2
    exact ⟨rfl, c _ m' F' E' H' _ f' (ESub.trans ⟨_, rfl⟩ e') rl2 (.ref (p := (x, dx)) (e'.get at_)) h2⟩⟩
/-- what a call leaves is seen as the caller sees it -/
theorem GD.fin (g : GD P w K mg base k a spec) (h : ∀ ds m R, spec' ds m R → spec ds m (Fin m R)) : GD P w K mg base k a spec' :=
  ⟨g.kp, fun X h1 h2 h3 h4 h5 hr => CallR.imp (g.run X h1 h2 h3 h4 h5 hr) fun xs H Q ⟨F, G, E, m, ds, R, rl, rs, q, c⟩ => by
    subst h3
    refine ⟨F, G, E, m, ds, _, rl, rs, h ds m R q, fun d m' F' E' H' v f' e' rl' rp' hf => ?_⟩
    obtain ⟨d2, m2, F2, E2, f2, e2, rl2, rp2, h2⟩ := Fin.ok rl rl' f' e' rp' hf
    exact c d2 m2 F2 E2 H' v (f'.trans f2) e2 rl2 rp2 h2⟩
def startD (N : List Str) (ds : List D) : DS := ds.map some ++ List.replicate (N.length - ds.length) none
theorem start_ok {K : PySem.W.Frag} {F : Hp} {E : Eta} {ds : List D} {vs : List V} (N : List Str) (r : Rps K F E ds vs) : RpS K F E (startD N ds) (L2.start N vs) := by
  have hl := r.length
  unfold startD L2.start
  refine ⟨by simp [hl], fun i d e => ?_⟩
  by_cases hi : i < ds.length
  · rw [List.getElem?_append_left (by simpa using hi), List.getElem?_map] at e
    cases q : ds[i]? with
    | none => rw [q] at e; cases e
    | some x =>
      rw [q] at e
      cases e
      obtain ⟨v, hv, rp⟩ := r.get q
      rw [List.getElem?_append_left (by simpa [← hl] using hi), List.getElem?_map, hv]
      exact ⟨v, rfl, rp⟩
  · rw [List.getElem?_append_right (by simpa using hi), List.getElem?_replicate] at e
    split at e <;> cases e
def endsD (m : Mu) (R : D → Mu → Prop) : DEnds := { nx := fun _ m2 => Fin m R .non m2, rt := Fin m R }
/-- a def by its body -/
theorem fn_body {x qual : Str} {params : Arguments} {body : List Stmt} {scope : Scope} {dvs : List V} {kws : List (Str × V)} {fd : FuncData} {N ps : List Str} (F : FunD K x qual params body scope dvs kws f fd) (S : FnScope N ps scope) (hlen : ∀ ds m R, spec ds m R → ds.length = ps.length)
    (hbody : ∀ (cdv : Value) (A : Around) (outer : List Env) (s : Shared) (H : Hp) (E : XK), Room k (A.deeper (envOfC qual scope s.heap.objs.size f cdv)) →
      ∃ t, DSs (cxOf CX0 P w K mg base N qual scope f cdv A outer s H E).nox body t ∧ ∀ ds m R, spec ds m R → t (endsD m R) (startD N ds) m) : FnOk P w K mg base CX0 (k + 1) f fd ps (spD K spec) := by
  refine F.ok S (fun vs H Q E ⟨F1, G, E', m, ds, R, rl, rs, h, c⟩ => by rw [← rs.length]; exact hlen ds m R h) fun cdv A outer s H vs Q E hr ⟨F1, G, E', m, ds, R, rl, rs, h, c⟩ => ?_
  obtain ⟨t, ht, hq⟩ := hbody cdv A outer s H E hr
  refine ⟨_, PSs.nox ht.ps, F1, G, E', m, startD N ds, endsD m R, rl, start_ok N rs, hq ds m R h, ⟨fun δ m1 F2 E2 H2 σ f2 e2 rl2 rs2 h2 => ?_, fun d m1 F2 E2 H2 v f2 e2 rl2 rp2 h2 => ?_, fun _ _ _ _ _ _ _ _ _ _ z => z.elim, fun _ _ _ _ _ _ _ _ _ _ z => z.elim⟩⟩
  · obtain ⟨d3, m3, F3, E3, f3, e3, rl3, rp3, h3⟩ := Fin.ok rl rl2 f2 e2 .non h2
    exact c d3 m3 F3 E3 H2 .non (f2.trans f3) e3 rl3 rp3 h3
  · obtain ⟨d3, m3, F3, E3, f3, e3, rl3, rp3, h3⟩ := Fin.ok rl rl2 f2 e2 rp2 h2
    exact c d3 m3 F3 E3 H2 v (f2.trans f3) e3 rl3 rp3 h3
theorem FnOk.pos {fd : FuncData} {ps : List Str} {sp : Sp} (F : FnOk P w K mg base CX0 k f fd ps sp) (hb : Binds K fd ps []) : FnR P w K mg base CX0 k f sp :=
  FnR.imp (F.raw hb .nil) fun vs H Q E h => by rw [List.append_nil]; exact h
end

/-! ### calls -/
section
variable {X : Cx} {k j : Nat} {a C g : Addr} {x m : Str} {p pos apos : Pos} {e o : Expr} {es : List Expr} {ta : TDE} {t : TDA} {spec : DRs}
theorem pe_callV {r : List V → Hp → VK → Prop} {t : TA} (hc : CallR X (.ref a) r) (hk : PySem.W.keepIn X.K (.ref a) = true) (hg : Gl X x) (hm : X.mg x = some (.ref a)) (ha : PA X (e :: es) t) (hdb : (x == ("__debug__" : Str)) = false := by decide)
    (he : starEach (e :: es) X.env = (false, eval e X.env) :: starEach es X.env := by rfl) (hpl : ((backTo pos (starEach es X.env)).any fun x => x.fst) = false := by rfl) : PE X (.Call (.Name x p) (e :: es) [] pos) (tCB r t) := by
  refine ⟨fun pins s σ H Q I h => ?_⟩
  refine wpAny_Call_Name_kw (ld_glob I hg hm ?_ hdb)
  refine PySem.W.callWith_K (h₀ := X.base) I.ok.mod.kin hk (thn (ha.run pos pins s σ H _ I h) fun us s1 ⟨vs, H1, I1, r, q⟩ => ⟨I1.kIn, ?_⟩) he hpl
  exact hc pins s1 σ H1 vs us Q I1 r q
theorem pe_callV0 {r : List V → Hp → VK → Prop} (hc : CallR X (.ref a) r) (hk : PySem.W.keepIn X.K (.ref a) = true) (hg : Gl X x) (hm : X.mg x = some (.ref a)) (hdb : (x == ("__debug__" : Str)) = false := by decide) : PE X (.Call (.Name x p) [] [] pos) (tCB r tNil) := by
  refine ⟨fun pins s σ H Q I h => ?_⟩
  refine wpAny_Call_Name_kw (ld_glob I hg hm ?_ hdb)
  exact PySem.W.callWith_K0 I.kIn hk (hc pins s σ H [] [] Q I .nil h)
theorem de_call (g : GD X.prog X.w X.K X.mg X.base k a spec) (hm : X.mg x = some (.ref a)) (hr : Room j X.A) (ha : DA X (e :: es) t) (hk : k ≤ j := by decide) (hg : Gl X x := by rfl) (hdb : (x == ("__debug__" : Str)) = false := by decide)
    (he : starEach (e :: es) X.env = (false, eval e X.env) :: starEach es X.env := by rfl) (hpl : ((backTo pos (starEach es X.env)).any fun x => x.fst) = false := by rfl) : DE X (.Call (.Name x p) (e :: es) [] pos) (dCall spec t) :=
  ⟨PE.imp (pe_callV (g.run X rfl rfl rfl rfl rfl (hr.mono hk)) g.kp hg hm ha.pa hdb he hpl) fun σ H Q h => lift_call h⟩
theorem de_call0 (g : GD X.prog X.w X.K X.mg X.base k a spec) (hm : X.mg x = some (.ref a)) (hr : Room j X.A) (hk : k ≤ j := by decide) (hg : Gl X x := by rfl) (hdb : (x == ("__debug__" : Str)) = false := by decide) : DE X (.Call (.Name x p) [] [] pos) (dCall spec dNil) :=
  ⟨PE.imp (pe_callV0 (g.run X rfl rfl rfl rfl rfl (hr.mono hk)) g.kp hg hm hdb) fun σ H Q h => by
    obtain ⟨F, G, E, m, δ, R, rl, rs, h, k⟩ := h
    exact ⟨F, G, E, m, [], R, rl, .nil, h, k⟩⟩

/-! ### methods -/
/-- an instance whose class has slots; one with a dict of its own -/
def OwnAt (K : PySem.W.Frag) (H : Hp) (a C : Addr) (m : Str) : Prop := (∃ dx vs, Slt H a C dx vs ∧ SCls K C) ∨ ∃ dx fs, H a = some (.ins C dx fs) ∧ Cls K C ∧ fs.lookup m = none
def tMethV (K : PySem.W.Frag) (C : Addr) (m : Str) (r : List V → Hp → VK → Prop) (ta : TE) (t : TA) : TE := fun σ H Q => ta σ H fun x H1 => ∃ a, x = .ref a ∧ OwnAt K H1 a C m ∧ t σ H1 fun ws H2 => r (x :: ws) H2 Q
theorem own_meth {pins : List (Addr × Obj)} {σ : L2.St} {H : Hp} {s : Shared} {A : Around} {E : Value → Shared → Prop} {g : Addr} {pl : Sem Bool} {Q : Value × List Value → Shared → Prop} (I : Inv X pins σ H s) (h : OwnAt X.K H a C m) (k : Meth X.K C m g) (q : Q (.ref g, [.ref a]) s) :
    wpAny (model X.prog X.w) A (getMethod (.ref a) m pl) Q E s := by
  rcases h with ⟨dx, vs, h, c⟩ | ⟨dx, fs, h, c, l⟩
  · exact getmethsl_ok I h c k q
  · exact getmeth_ok I h c k l q
theorem pe_methV {r : List V → Hp → VK → Prop} {ta : TE} {t : TA} {pl : Sem Bool} (he : PE X o ta) (hm : Meth X.K C m g) (hc : CallR X (.ref g) r) (ha : PA X (e :: es) t)
    (hst : starEach (e :: es) X.env = (false, eval e X.env) :: starEach es X.env := by rfl) (hpl : ((backTo pos (starEach es X.env)).any fun x => x.fst) = false := by rfl)
    (ht : eval (.Call (.Attribute o m apos) (e :: es) [] pos) X.env = (do
      let ov ← eval o X.env
      standAt apos.atName
      let (f, first) ← holding [ov] (getMethod ov m pl)
      callWith pos f first (backTo pos (starEach (e :: es) X.env)) (backToKw pos (keywordEach [] X.env))) := by rfl) :
    PE X (.Call (.Attribute o m apos) (e :: es) [] pos) (tMethV X.K C m r ta t) := by
  refine ⟨fun pins s σ H Q I h => ?_⟩
  refine PySem.W.methodCall_KW (pl := pl) (thn (he.run pins s σ H _ I h) fun u s1 ⟨x, H1, I1, rx, a, ex, ho, q⟩ => ?_) ht
  subst ex
  obtain rfl : u = Value.ref a := rx
  refine own_meth I1 ho hm ?_
  refine PySem.W.callWith_K (first := [.ref a]) (h₀ := X.base) I.ok.mod.kin hm.kp (thn (ha.run pos pins s1 σ H1 _ I1 q) fun us s2 ⟨ws, H2, I2, r, q2⟩ => ⟨I2.kIn, ?_⟩) hst hpl
  exact hc pins s2 σ H2 (.ref a :: ws) (.ref a :: us) Q I2 (.cons rfl r) q2
theorem pe_methV0 {r : List V → Hp → VK → Prop} {ta : TE} {pl : Sem Bool} (he : PE X o ta) (hm : Meth X.K C m g) (hc : CallR X (.ref g) r)
    (ht : eval (.Call (.Attribute o m apos) [] [] pos) X.env = (do
      let ov ← eval o X.env
      standAt apos.atName
      let (f, first) ← holding [ov] (getMethod ov m pl)
      callWith pos f first (backTo pos (starEach [] X.env)) (backToKw pos (keywordEach [] X.env))) := by rfl) :
    PE X (.Call (.Attribute o m apos) [] [] pos) (tMethV X.K C m r ta tNil) := by
  refine ⟨fun pins s σ H Q I h => ?_⟩
  refine PySem.W.methodCall_KW (pl := pl) (thn (he.run pins s σ H _ I h) fun u s1 ⟨x, H1, I1, rx, a, ex, ho, q⟩ => ?_) ht
  subst ex
  obtain rfl : u = Value.ref a := rx
  refine own_meth I1 ho hm ?_
  exact PySem.W.callWith_K0 (first := [.ref a]) I1.kIn hm.kp (hc pins s1 σ H1 [.ref a] [.ref a] Q I1 (.cons rfl .nil) q)
/-- an object of the class at C -/
def isObj (C : Addr) (nm : Str) (m : Mu) : D → Prop
  | .obj C' _ => C' = C
  | .ref n => match m[n]? with
    | some (.slt C' _) => C' = C
    | some (.ins C' fs) => C' = C ∧ fs.lookup nm = none
    | _ => False
  | _ => False
/-- what the text says of a class -/
structure ClK (K : PySem.W.Frag) (C : Addr) (slotted : Bool) : Prop where
  sl : slotted = true → SCls K C
  di : slotted = false → Cls K C
def isObjS (C : Addr) (m : Mu) : D → Prop
  | .obj C' _ => C' = C
  | .ref n => ∃ xs, m[n]? = some (.slt C xs)
  | _ => False
def isObjI (C : Addr) (nm : Str) (m : Mu) : D → Prop
  | .ref n => ∃ fs, m[n]? = some (.ins C fs) ∧ fs.lookup nm = none
  | _ => False
theorem rpf_lookup {K : PySem.W.Frag} {F : Hp} {E : Eta} {nm : Str} : ∀ {fs : List (Str × D)} {ws : List (Str × V)}, RpF K F E fs ws → (∀ d, fs.lookup nm = some d → ∃ v, ws.lookup nm = some v ∧ Rp K F E d v) ∧ (fs.lookup nm = none → ws.lookup nm = none)
  | _, _, .nil => ⟨fun d e => (nomatch e), fun _ => rfl⟩
  | (k, d) :: fs, (_, v) :: ws, .cons r t => by
    obtain ⟨i1, i2⟩ := rpf_lookup (nm := nm) t
    by_cases h : nm = k
    · have hb : (nm == k) = true := beq_iff_eq.mpr h
      refine ⟨fun x e => ?_, fun e => ?_⟩
      · simp only [List.lookup, hb] at e ⊢
        cases e
        exact ⟨v, rfl, r⟩
      · simp only [List.lookup, hb] at e; cases e
    · have hb : (nm == k) = false := beq_eq_false_iff_ne.mpr h
      refine ⟨fun x e => ?_, fun e => ?_⟩
      · simp only [List.lookup, hb] at e ⊢; exact i1 x e
      · simp only [List.lookup, hb] at e ⊢; exact i2 e
theorem Rl.objS {K : PySem.W.Frag} {F G H : Hp} {E : Eta} {m : Mu} (r : Rl K F G H E m) {d : D} {v : V} (p : Rp K F E d v) (h : isObjS C m d) : ∃ a dx vs, v = .ref a ∧ Slt H a C dx vs := by
  cases d with
  | obj C' xs =>
    have e : C' = C := h
    subst e
    cases p with
    | obj q1 q2 t => exact ⟨_, _, _, rfl, .inr ⟨r.sub _ _ q1, r.sub _ _ q2⟩⟩
  | ref n =>
    obtain ⟨xs, hm⟩ := (show ∃ xs, m[n]? = some (.slt C xs) from h)
    obtain ⟨q, _, rfl, vs, a, _⟩ := r.ref_at p hm
    exact ⟨_, _, vs, rfl, a⟩
  | _ => exact (show False from h).elim
theorem Rl.objI {K : PySem.W.Frag} {F G H : Hp} {E : Eta} {m : Mu} {nm : Str} (r : Rl K F G H E m) {d : D} {v : V} (p : Rp K F E d v) (h : isObjI C nm m d) : ∃ a dx ws, v = .ref a ∧ H a = some (.ins C dx ws) ∧ ws.lookup nm = none := by
  cases d with
  | ref n =>
    obtain ⟨fs, hm, hl⟩ := (show ∃ fs, m[n]? = some (.ins C fs) ∧ fs.lookup nm = none from h)
    obtain ⟨q, _, rfl, dx, ws, a, b, _⟩ := r.ref_at p hm
    exact ⟨_, dx, ws, rfl, a, (rpf_lookup b).2 hl⟩
  | _ => exact (show False from h).elim
def dMethS (C : Addr) (spec : DRs) (ta : TDE) (t : TDA) : TDE := fun δ m R => ta δ m fun x m1 => isObjS C m1 x ∧ t δ m1 fun ds m2 => spec (x :: ds) m2 R
def dMethI (C : Addr) (nm : Str) (spec : DRs) (ta : TDE) (t : TDA) : TDE := fun δ m R => ta δ m fun x m1 => isObjI C nm m1 x ∧ t δ m1 fun ds m2 => spec (x :: ds) m2 R
theorem meth_liftS {σ : L2.St} {H : Hp} {Q : VK} (c : SCls X.K C) (h : liftE X.K (dMethS C spec ta t) σ H Q) : tMethV X.K C m (liftC X.K spec) (liftE X.K ta) (liftA X.K t) σ H Q := by
  obtain ⟨F, G, E, mu, δ, R, rl, rs, h, k⟩ := h
  refine ⟨F, G, E, mu, δ, _, rl, rs, h, fun x m1 F1 E1 H1 v f1 e1 rl1 rp1 ⟨ho, h1⟩ => ?_⟩
  obtain ⟨a, dx, vs, rfl, sl⟩ := rl1.objS rp1 ho
  exact ⟨a, rfl, .inl ⟨dx, vs, sl, c⟩, F1, G, E1, m1, δ, _, rl1, rs.mono f1 e1, h1, fun ds m2 F2 E2 H2 ws f2 e2 rl2 rp2 h2 => ⟨F2, G, E2, m2, x :: ds, R, rl2, .cons (rp1.mono f2 e2) rp2, h2, (k.on f1 e1).on f2 e2⟩⟩
theorem meth_liftI {σ : L2.St} {H : Hp} {Q : VK} (c : Cls X.K C) (h : liftE X.K (dMethI C m spec ta t) σ H Q) : tMethV X.K C m (liftC X.K spec) (liftE X.K ta) (liftA X.K t) σ H Q := by
  obtain ⟨F, G, E, mu, δ, R, rl, rs, h, k⟩ := h
  refine ⟨F, G, E, mu, δ, _, rl, rs, h, fun x m1 F1 E1 H1 v f1 e1 rl1 rp1 ⟨ho, h1⟩ => ?_⟩
  obtain ⟨a, dx, ws, rfl, ha, l⟩ := rl1.objI rp1 ho
  exact ⟨a, rfl, .inr ⟨dx, ws, ha, c, l⟩, F1, G, E1, m1, δ, _, rl1, rs.mono f1 e1, h1, fun ds m2 F2 E2 H2 ws f2 e2 rl2 rp2 h2 => ⟨F2, G, E2, m2, x :: ds, R, rl2, .cons (rp1.mono f2 e2) rp2, h2, (k.on f1 e1).on f2 e2⟩⟩
theorem de_methS {pl : Sem Bool} (c : SCls X.K C) (hm : Meth X.K C m g) (gd : GD X.prog X.w X.K X.mg X.base k g spec) (hr : Room j X.A) (he : DE X o ta) (ha : DA X (e :: es) t) (hk : k ≤ j := by decide)
    (hst : starEach (e :: es) X.env = (false, eval e X.env) :: starEach es X.env := by rfl) (hpl : ((backTo pos (starEach es X.env)).any fun x => x.fst) = false := by rfl)
    (ht : eval (.Call (.Attribute o m apos) (e :: es) [] pos) X.env = (do
      let ov ← eval o X.env
      standAt apos.atName
      let (f, first) ← holding [ov] (getMethod ov m pl)
      callWith pos f first (backTo pos (starEach (e :: es) X.env)) (backToKw pos (keywordEach [] X.env))) := by rfl) : DE X (.Call (.Attribute o m apos) (e :: es) [] pos) (dMethS C spec ta t) :=
  ⟨PE.imp (pe_methV he.pe hm (gd.run X rfl rfl rfl rfl rfl (hr.mono hk)) ha.pa hst hpl ht) fun σ H Q h => meth_liftS c h⟩
theorem de_methI {pl : Sem Bool} (c : Cls X.K C) (hm : Meth X.K C m g) (gd : GD X.prog X.w X.K X.mg X.base k g spec) (hr : Room j X.A) (he : DE X o ta) (ha : DA X (e :: es) t) (hk : k ≤ j := by decide)
    (hst : starEach (e :: es) X.env = (false, eval e X.env) :: starEach es X.env := by rfl) (hpl : ((backTo pos (starEach es X.env)).any fun x => x.fst) = false := by rfl)
    (ht : eval (.Call (.Attribute o m apos) (e :: es) [] pos) X.env = (do
      let ov ← eval o X.env
      standAt apos.atName
      let (f, first) ← holding [ov] (getMethod ov m pl)
      callWith pos f first (backTo pos (starEach (e :: es) X.env)) (backToKw pos (keywordEach [] X.env))) := by rfl) : DE X (.Call (.Attribute o m apos) (e :: es) [] pos) (dMethI C m spec ta t) :=
  ⟨PE.imp (pe_methV he.pe hm (gd.run X rfl rfl rfl rfl rfl (hr.mono hk)) ha.pa hst hpl ht) fun σ H Q h => meth_liftI c h⟩
theorem lift_nil {K : PySem.W.Frag} {σ : L2.St} {H : Hp} {Q : List V → Hp → Prop} (h : liftA K dNil σ H Q) : tNil σ H Q := by
  obtain ⟨F, G, E, m, δ, R, rl, rs, h, k⟩ := h
  exact k.val rl .nil h
theorem de_methS0 {pl : Sem Bool} (c : SCls X.K C) (hm : Meth X.K C m g) (gd : GD X.prog X.w X.K X.mg X.base k g spec) (hr : Room j X.A) (he : DE X o ta) (hk : k ≤ j := by decide)
    (ht : eval (.Call (.Attribute o m apos) [] [] pos) X.env = (do
      let ov ← eval o X.env
      standAt apos.atName
      let (f, first) ← holding [ov] (getMethod ov m pl)
      callWith pos f first (backTo pos (starEach [] X.env)) (backToKw pos (keywordEach [] X.env))) := by rfl) : DE X (.Call (.Attribute o m apos) [] [] pos) (dMethS C spec ta dNil) :=
  ⟨PE.imp (pe_methV0 he.pe hm (gd.run X rfl rfl rfl rfl rfl (hr.mono hk)) ht) fun σ H Q h => by
    have h' := meth_liftS (m := m) c h
    obtain ⟨F, G, E, mu, δ, R, rl, rs, h, k⟩ := h'
    exact ⟨F, G, E, mu, δ, R, rl, rs, h, fun d m' F' E' H' v f e r p q => let ⟨a, e1, e2, e3⟩ := k d m' F' E' H' v f e r p q; ⟨a, e1, e2, lift_nil e3⟩⟩⟩
theorem de_methI0 {pl : Sem Bool} (c : Cls X.K C) (hm : Meth X.K C m g) (gd : GD X.prog X.w X.K X.mg X.base k g spec) (hr : Room j X.A) (he : DE X o ta) (hk : k ≤ j := by decide)
    (ht : eval (.Call (.Attribute o m apos) [] [] pos) X.env = (do
      let ov ← eval o X.env
      standAt apos.atName
      let (f, first) ← holding [ov] (getMethod ov m pl)
      callWith pos f first (backTo pos (starEach [] X.env)) (backToKw pos (keywordEach [] X.env))) := by rfl) : DE X (.Call (.Attribute o m apos) [] [] pos) (dMethI C m spec ta dNil) :=
  ⟨PE.imp (pe_methV0 he.pe hm (gd.run X rfl rfl rfl rfl rfl (hr.mono hk)) ht) fun σ H Q h => by
    have h' := meth_liftI (m := m) c h
    obtain ⟨F, G, E, mu, δ, R, rl, rs, h, k⟩ := h'
    exact ⟨F, G, E, mu, δ, R, rl, rs, h, fun d m' F' E' H' v f e r p q => let ⟨a, e1, e2, e3⟩ := k d m' F' E' H' v f e r p q; ⟨a, e1, e2, lift_nil e3⟩⟩⟩

/-! ### attributes -/
structure SlF (K : PySem.W.Frag) (C : Addr) (f : Str) (i : Nat) : Prop where
  cls : SCls K C
  sl : ∃ p, Slot1 K C f p i
def slotOf (C : Addr) (i : Nat) (m : Mu) : D → Option D
  | .obj C' xs => if C' = C then xs[i]? else none
  | .ref n => match m[n]? with
    | some (.slt C' xs) => if C' = C then (xs[i]?).join else none
    | _ => none
  | _ => none
theorem rpo_get {K : PySem.W.Frag} {F : Hp} {E : Eta} : ∀ {ds : List D} {vs : List (Option V)} {i : Nat} {d : D}, RpO K F E ds vs → ds[i]? = some d → ∃ v, vs[i]? = some (some v) ∧ Rp K F E d v
  | _, _, _, _, .nil, e => by simp at e
  | _, _, 0, _, .cons r _, e => by simp at e; subst e; exact ⟨_, rfl, r⟩
  | _, _, i + 1, d, .cons r t, e => by
    obtain ⟨v, h1, h2⟩ := rpo_get (i := i) (d := d) t (by simpa using e)
    exact ⟨v, by simpa using h1, h2⟩
theorem rpq_get {K : PySem.W.Frag} {F : Hp} {E : Eta} : ∀ {ds : List (Option D)} {vs : List (Option V)} {i : Nat} {d : D}, RpQ K F E ds vs → ds[i]? = some (some d) → ∃ v, vs[i]? = some (some v) ∧ Rp K F E d v
  | _, _, _, _, .nil, e => by simp at e
  | _, _, 0, _, .some r _, e => by simp at e; subst e; exact ⟨_, rfl, r⟩
  | _, _, 0, _, .none _, e => by simp at e
  | _, _, i + 1, d, .some r t, e => by
    obtain ⟨v, h1, h2⟩ := rpq_get (i := i) (d := d) t (by simpa using e)
    exact ⟨v, by simpa using h1, h2⟩
  | _, _, i + 1, d, .none t, e => by
    obtain ⟨v, h1, h2⟩ := rpq_get (i := i) (d := d) t (by simpa using e)
    exact ⟨v, by simpa using h1, h2⟩
theorem rpq_length {K : PySem.W.Frag} {F : Hp} {E : Eta} : ∀ {ds : List (Option D)} {vs : List (Option V)}, RpQ K F E ds vs → ds.length = vs.length
  | _, _, .nil => rfl
  | _, _, .some _ t => congrArg (· + 1) (rpq_length t)
  | _, _, .none t => congrArg (· + 1) (rpq_length t)
theorem rpq_none {K : PySem.W.Frag} {F : Hp} {E : Eta} : ∀ n : Nat, RpQ K F E (List.replicate n none) (List.replicate n none)
  | 0 => .nil
  | n + 1 => .none (rpq_none n)
theorem rpq_append {K : PySem.W.Frag} {F : Hp} {E : Eta} : ∀ {ds es : List (Option D)} {vs ws : List (Option V)}, RpQ K F E ds vs → RpQ K F E es ws → RpQ K F E (ds ++ es) (vs ++ ws)
  | _, _, _, _, .nil, q => q
  | _, _, _, _, .some r t, q => .some r (rpq_append t q)
  | _, _, _, _, .none t, q => .none (rpq_append t q)
theorem rpq_set {K : PySem.W.Frag} {F : Hp} {E : Eta} {d : D} {v : V} (r : Rp K F E d v) : ∀ {ds : List (Option D)} {vs : List (Option V)} (i : Nat), RpQ K F E ds vs → RpQ K F E (ds.set i (some d)) (vs.set i (some v))
  | _, _, _, .nil => .nil
  | _, _, 0, .some _ t => .some r t
  | _, _, 0, .none t => .some r t
  | _, _, i + 1, .some q t => .some q (rpq_set r i t)
  | _, _, i + 1, .none t => .none (rpq_set r i t)
def putSD (i : Nat) (d : D) (xs : List (Option D)) : List (Option D) := (xs ++ List.replicate (i + 1 - xs.length) none).set i (some d)
theorem rpq_put {K : PySem.W.Frag} {F : Hp} {E : Eta} {d : D} {v : V} {ds : List (Option D)} {vs : List (Option V)} (r : Rp K F E d v) (i : Nat) (q : RpQ K F E ds vs) : RpQ K F E (putSD i d ds) (SlX.putS i v vs) := by
  unfold putSD SlX.putS
  rw [rpq_length q]
  exact rpq_set r i (rpq_append q (rpq_none _))
theorem Rl.slot {K : PySem.W.Frag} {F G H : Hp} {E : Eta} {m : Mu} (r : Rl K F G H E m) {d y : D} {v : V} {i : Nat} (p : Rp K F E d v) (h : slotOf C i m d = some y) : ∃ a dx vs u, v = .ref a ∧ Slt H a C dx vs ∧ vs[i]? = some (some u) ∧ Rp K F E y u := by
  cases d with
  | obj C' xs =>
    have h' : (if C' = C then xs[i]? else none) = some y := h
    by_cases e : C' = C
    · rw [if_pos e] at h'
      subst e
      cases p with
      | obj q1 q2 t =>
        obtain ⟨u, hu, ru⟩ := rpo_get t h'
        exact ⟨_, _, _, u, rfl, .inr ⟨r.sub _ _ q1, r.sub _ _ q2⟩, hu, ru⟩
    · rw [if_neg e] at h'; cases h'
  | ref n =>
    have h' : (match m[n]? with | some (MO.slt C' xs) => if C' = C then (xs[i]?).join else none | _ => none) = some y := h
    cases hm : m[n]? with
    | none => rw [hm] at h'; cases h'
    | some mo =>
      rw [hm] at h'
      cases mo with
      | slt C' xs =>
        have h2 : (if C' = C then (xs[i]?).join else none) = some y := h'
        by_cases e : C' = C
        · rw [if_pos e] at h2
          subst e
          obtain ⟨q, _, rfl, vs, a, b, _⟩ := r.ref_at p hm
          obtain ⟨u, hu, ru⟩ := rpq_get b (d := y) (i := i) (by
            cases z : xs[i]? with
            | none => rw [z] at h2; cases h2
            | some o => rw [z] at h2; exact congrArg some h2)
          exact ⟨_, _, vs, u, rfl, a, hu, ru⟩
        · rw [if_neg e] at h2; cases h2
      | _ => cases h'
  | _ => cases h
def dSlot (C : Addr) (i : Nat) (ta : TDE) : TDE := fun δ m R => ta δ m fun x m1 => ∃ d, slotOf C i m1 x = some d ∧ R d m1
theorem de_slot {f : Str} {i : Nat} (c : SlF X.K C f i) (he : DE X e ta) (hb : attributeBase e f X.env (eval e X.env) = eval e X.env := by rfl) : DE X (.Attribute e f pos) (dSlot C i ta) :=
  ⟨PE.imp (pe_sl he.pe hb) fun σ H Q ⟨F, G, E, mu, δ, R, rl, rs, h, k⟩ => ⟨F, G, E, mu, δ, _, rl, rs, h, fun x m1 F1 E1 H1 v f1 e1 rl1 rp1 ⟨d, h1, h2⟩ => by
    obtain ⟨p, s1⟩ := c.sl
    obtain ⟨a, dx, vs, u, rfl, sl, hu, ru⟩ := rl1.slot rp1 h1
    exact ⟨a, C, dx, p, vs, i, u, rfl, sl, c.cls, s1, hu, (k.on f1 e1).val rl1 ru h2⟩⟩⟩
/-- o.f = e, o an instance with slots that is being made -/
def dSetSlot (C : Addr) (i : Nat) (te ta : TDE) : TDS := fun D1 δ m => te δ m fun y m1 => ta δ m1 fun x m2 => ∃ n xs, x = .ref n ∧ m2[n]? = some (.slt C xs) ∧ D1.nx δ (m2.set n (.slt C (putSD i y xs)))
theorem Rl.setSlot {K : PySem.W.Frag} {F G H : Hp} {E : Eta} {m : Mu} (r : Rl K F G H E m) {n i : Nat} {p : Addr × Addr} {xs : List (Option D)} {vs : List (Option V)} {y : D} {u : V} (hp : E[n]? = some p) (hm : m[n]? = some (.slt C xs)) (sl : RpQ K F E xs vs) (ne : p.2 ≠ p.1) (ry : Rp K F E y u) :
    Rl K F G (slH H p.1 C p.2 (SlX.putS i u vs)) E (m.set n (.slt C (putSD i y xs))) := by
  refine r.write hp (fun b h1 h2 => slH_ne h1 h2) ?_
  refine ⟨_, slH_slt ne, rpq_put ry i sl, ne, ⟨.xd [], ?_⟩⟩
  unfold slH
  rw [upd_ne ne, upd_same]
theorem dst_slot {f : Str} {i : Nat} {value : Expr} {te : TDE} {pos' : Pos} (c : SlF X.K C f i) (ha : DE X o ta) (hv : DE X value te) (hs : swapsWith value (some (.Attribute o f pos')) pos.line X.env = pure false := by rfl) : DSt X (.Assign [.Attribute o f pos'] value pos) (dSetSlot C i te ta) :=
  ⟨PS.imp (ps_sl ha.pe hv.pe hs) fun D σ H ⟨F, G, E, mu, δ, R, rl, rs, h, k⟩ => ⟨F, G, E, mu, δ, _, rl, rs, h, fun y m1 F1 E1 H1 u f1 e1 rl1 rp1 h1 => ⟨F1, G, E1, m1, δ, _, rl1, rs.mono f1 e1, h1, fun x m2 F2 E2 H2 v f2 e2 rl2 rp2 ⟨n, xs, ex, hm, h2⟩ => by
    subst ex
    obtain ⟨p, s1⟩ := c.sl
    obtain ⟨q, hq, rfl, vs, a, b, ne, _⟩ := rl2.ref_at rp2 hm
    exact ⟨q.1, C, q.2, p, vs, i, rfl, a, c.cls, s1, (k.on f1 e1).nx _ _ F2 E2 _ σ f2 e2 (rl2.setSlot hq hm b ne (rp1.mono f2 e2)) ((rs.mono f1 e1).mono f2 e2) h2⟩⟩⟩⟩
/-- .. of an instance with a dict of its own -/
def fldOf (C : Addr) (f : Str) (m : Mu) : D → Option D
  | .ref n => match m[n]? with
    | some (.ins C' fs) => if C' = C then fs.lookup f else none
    | _ => none
  | _ => none
structure InF (K : PySem.W.Frag) (C : Addr) (f : Str) : Prop where
  cls : Cls K C
  no : NoAttr K C f
def dFld (C : Addr) (f : Str) (ta : TDE) : TDE := fun δ m R => ta δ m fun x m1 => ∃ d, fldOf C f m1 x = some d ∧ R d m1
theorem de_fld {f : Str} (c : InF X.K C f) (he : DE X e ta) (hb : attributeBase e f X.env (eval e X.env) = eval e X.env := by rfl) : DE X (.Attribute e f pos) (dFld C f ta) :=
  ⟨PE.imp (pe_fld he.pe hb) fun σ H Q ⟨F, G, E, mu, δ, R, rl, rs, h, k⟩ => ⟨F, G, E, mu, δ, _, rl, rs, h, fun x m1 F1 E1 H1 v f1 e1 rl1 rp1 ⟨d, h1, h2⟩ => by
    cases x with
    | ref n =>
      have h' : (match m1[n]? with | some (MO.ins C' fs) => if C' = C then fs.lookup f else none | _ => none) = some d := h1
      cases hm : m1[n]? with
      | none => rw [hm] at h'; cases h'
      | some mo =>
        rw [hm] at h'
        cases mo with
        | ins C' fs =>
          have h3 : (if C' = C then fs.lookup f else none) = some d := h'
          by_cases ec : C' = C
          · rw [if_pos ec] at h3
            subst ec
            obtain ⟨q, _, rfl, dx, ws, a, b, _⟩ := rl1.ref_at rp1 hm
            obtain ⟨u, hu, ru⟩ := (rpf_lookup b).1 d h3
            exact ⟨_, _, dx, ws, u, rfl, a, c.cls, c.no, hu, (k.on f1 e1).val rl1 ru h2⟩
          · rw [if_neg ec] at h3; cases h3
        | _ => cases h'
    | _ => cases h1⟩⟩
def putFD (f : Str) (d : D) : List (Str × D) → List (Str × D)
  | [] => [(f, d)]
  | (g, x) :: r => if g = f then (g, d) :: r else (g, x) :: putFD f d r
theorem rpf_putFD {K : PySem.W.Frag} {F : Hp} {E : Eta} {nm : Str} {d : D} {v : V} (r : Rp K F E d v) : ∀ {fs : List (Str × D)} {ws : List (Str × V)}, RpF K F E fs ws → RpF K F E (putFD nm d fs) (putF nm v ws)
  | _, _, .nil => .cons r .nil
  | (k, x) :: fs, (_, y) :: ws, .cons q t => by
    show RpF K F E (if k = nm then (k, d) :: fs else (k, x) :: putFD nm d fs) (if k = nm then (k, v) :: ws else (k, y) :: putF nm v ws)
    by_cases h : k = nm
    · rw [if_pos h, if_pos h]; exact .cons r t
    · rw [if_neg h, if_neg h]; exact .cons q (rpf_putFD r t)
theorem rpf_length {K : PySem.W.Frag} {F : Hp} {E : Eta} : ∀ {ds : List (Str × D)} {vs : List (Str × V)}, RpF K F E ds vs → ds.length = vs.length
  | _, _, .nil => rfl
  | _, _, .cons _ t => congrArg (· + 1) (rpf_length t)
def dSetFld (C : Addr) (f : Str) (te ta : TDE) : TDS := fun D1 δ m => te δ m fun y m1 => ta δ m1 fun x m2 => ∃ n fs, x = .ref n ∧ m2[n]? = some (.ins C fs) ∧ fs.length < 1000 ∧ D1.nx δ (m2.set n (.ins C (putFD f y fs)))
theorem Rl.setFld {K : PySem.W.Frag} {F G H : Hp} {E : Eta} {m : Mu} (r : Rl K F G H E m) {n : Nat} {p : Addr × Addr} {f : Str} {fs : List (Str × D)} {ws : List (Str × V)} {dx : Addr} {y : D} {u : V} (hp : E[n]? = some p) (sl : RpF K F E fs ws) (ne : p.2 = p.1) (ry : Rp K F E y u) :
    Rl K F G (upd H p.1 (.ins C dx (putF f u ws))) E (m.set n (.ins C (putFD f y fs))) :=
  r.write hp (fun b h1 h2 => upd_ne h1) ⟨dx, _, upd_same, rpf_putFD ry sl, ne⟩
theorem dst_fld {f : Str} {value : Expr} {te : TDE} {pos' : Pos} (c : InF X.K C f) (ha : DE X o ta) (hv : DE X value te) (hs : swapsWith value (some (.Attribute o f pos')) pos.line X.env = pure false := by rfl) : DSt X (.Assign [.Attribute o f pos'] value pos) (dSetFld C f te ta) :=
  ⟨PS.imp (ps_fld ha.pe hv.pe hs) fun D σ H ⟨F, G, E, mu, δ, R, rl, rs, h, k⟩ => ⟨F, G, E, mu, δ, _, rl, rs, h, fun y m1 F1 E1 H1 u f1 e1 rl1 rp1 h1 => ⟨F1, G, E1, m1, δ, _, rl1, rs.mono f1 e1, h1, fun x m2 F2 E2 H2 v f2 e2 rl2 rp2 ⟨n, fs, ex, hm, hz, h2⟩ => by
    subst ex
    obtain ⟨q, hq, rfl, dx, ws, a, b, ne⟩ := rl2.ref_at rp2 hm
    exact ⟨q.1, C, dx, ws, rfl, a, c.cls, c.no, by rw [← rpf_length b]; exact hz, (k.on f1 e1).nx _ _ F2 E2 _ σ f2 e2 (rl2.setFld hq b ne (rp1.mono f2 e2)) ((rs.mono f1 e1).mono f2 e2) h2⟩⟩⟩⟩
end
end DL
set_option Elab.async false
set_option linter.all false
set_option maxRecDepth 100000
set_option maxHeartbeats 4000000
/-! D6a: places, slices, lists and their methods, sorted, all, any, stars. -/
namespace DL
open PySem PySem.Spec PyProof.Rows L2 SlX

theorem IxR.imp {X : Cx} {r r' : R2} (h : IxR X r) (k : ∀ x y H Q, r' x y H Q → r x y H Q) : IxR X r' := fun a b pins s σ H x y v u Q I rx ry q => h a b pins s σ H x y v u Q I rx ry (k x y H Q q)
theorem IxR.or {X : Cx} {r r' : R2} (h : IxR X r) (h' : IxR X r') : IxR X (fun x y H Q => r x y H Q ∨ r' x y H Q) := fun a b pins s σ H x y v u Q I rx ry q => q.elim (fun q => h a b pins s σ H x y v u Q I rx ry q) fun q => h' a b pins s σ H x y v u Q I rx ry q
theorem SlR.imp {X : Cx} {r r' : V → Option Int → Option Int → Hp → VK → Prop} (h : SlR X r) (k : ∀ x a b H Q, r' x a b H Q → r x a b H Q) : SlR X r' := fun pins s σ H x v vl vu lo hi sl Q I rx hs pl pu q => h pins s σ H x v vl vu lo hi sl Q I rx hs pl pu (k _ _ _ _ _ q)
/-- the item at a place -/
def ixD (m : Mu) (x : D) (i : Int) : Option D := match x with
  | .str z => if z.length ≤ sizeLine then (atI z.cps.toList i).map fun c => .str ⟨#[c]⟩ else none
  | x => (seqOf x m).bind fun xs => atI xs i
theorem atI_rps {K : PySem.W.Frag} {F : Hp} {E : Eta} {xs : List D} {vs : List V} {i : Int} {d : D} (r : Rps K F E xs vs) (h : atI xs i = some d) : ∃ v, atI vs i = some v ∧ Rp K F E d v := by
  unfold atI at h ⊢
  rw [← r.length]
  cases e : ixN xs.length i with
  | none => rw [e] at h; cases h
  | some j =>
    rw [e] at h
    exact r.get h
def dIx : DR2 := fun x y m R => ∃ i d, y = .int i ∧ ixD m x i = some d ∧ R d m
section
variable {X : Cx} {pos p2 : Pos} {a b : Expr} {ta tb : TDE}
theorem ixd : IxR X (lift2 X.K dIx) := by
  refine IxR.imp ((ix_list (X := X)).or ((ix_tup (X := X)).or (ix_str (X := X)))) fun x y H Q ⟨F, G, E, m, dx, dy, R, rl, rx, ry, ⟨i, d, ey, h1, h2⟩, k⟩ => ?_
  subst ey
  cases ry
  have go : (seqOf dx m).bind (fun xs => atI xs i) = some d → rIxL X.K x (.int i) H Q ∨ rIxT X.K x (.int i) H Q ∨ rIxS x (.int i) H Q := fun z => by
    cases e : seqOf dx m with
    | none => rw [e] at z; cases z
    | some xs =>
      rw [e] at z
      obtain ⟨a, vs, rfl, q, rv⟩ := rl.seq_ok rx e
      obtain ⟨v, hv, rp⟩ := atI_rps rv z
      rcases q with q | q
      · exact .inl ⟨a, vs, i, v, rfl, rfl, q, hv, k.val rl rp h2⟩
      · exact .inr (.inl ⟨a, vs, i, v, rfl, rfl, q, hv, k.val rl rp h2⟩)
  cases dx with
  | str z =>
    cases rx
    have h1' : (if z.length ≤ sizeLine then (atI z.cps.toList i).map fun c => D.str ⟨#[c]⟩ else none) = some d := h1
    by_cases hz : z.length ≤ sizeLine
    · rw [if_pos hz] at h1'
      obtain ⟨c, hc, rfl⟩ := Option.map_eq_some_iff.mp h1'
      exact .inr (.inr ⟨z, i, c, rfl, rfl, hz, hc, k.val rl (.str _) h2⟩)
    · rw [if_neg hz] at h1'; cases h1'
  | _ => exact go h1
theorem de_ix (ha : DE X a ta) (hb : DE X b tb) (hs : PlainIx b := by exact fun _ _ => rfl) : DE X (.Subscript a b pos) (dOp dIx ta tb) := ⟨PE.imp (pe_ix ixd ha.pe hb.pe hs) fun σ H Q h => lift_bin h⟩

/-! ### slices -/
abbrev TDO := DS → Mu → (Option Int → Mu → Prop) → Prop
def liftO (K : PySem.W.Frag) (t : TDO) : TO := fun σ H Q => ∃ F G E m δ R, Rl K F G H E m ∧ RpS K F E δ σ ∧ t δ m R ∧ ∀ o m' F' E' H', FSub F F' → ESub E E' → Rl K F' G H' E' m' → R o m' → Q o H'
structure DO (X : Cx) (e : Option Expr) (t : TDO) : Prop where
  po : PO X e (liftO X.K t)
def dNoPart : TDO := fun _ m R => R none m
def dPart (t : TDE) : TDO := fun δ m R => t δ m fun x m1 => ∃ i, x = .int i ∧ R (some i) m1
theorem do_none : DO X none dNoPart := ⟨⟨fun pins s σ H Q I ⟨F, G, E, m, δ, R, rl, rs, h, k⟩ => po_none.run pins s σ H Q I (k _ m F E H FSub.refl ESub.refl rl h)⟩⟩
theorem do_some {e : Expr} {te : TDE} (h : DE X e te) : DO X (some e) (dPart te) := ⟨⟨fun pins s σ H Q I ⟨F, G, E, m, δ, R, rl, rs, hq, k⟩ => (po_some h.pe).run pins s σ H Q I ⟨F, G, E, m, δ, _, rl, rs, hq, fun x m1 F1 E1 H1 v f1 e1 rl1 rp1 ⟨i, ex, h1⟩ => by
  subst ex
  cases rp1
  exact ⟨i, rfl, k _ m1 F1 E1 H1 f1 e1 rl1 h1⟩⟩⟩⟩
def cutD (xs : List D) (lo hi : Option Int) : List D := (xs.drop (HT.sIx xs.length 0 lo)).take (HT.sIx xs.length xs.length hi - HT.sIx xs.length 0 lo)
theorem cut_rps {K : PySem.W.Frag} {F : Hp} {E : Eta} {xs : List D} {vs : List V} (r : Rps K F E xs vs) (lo hi : Option Int) : Rps K F E (cutD xs lo hi) (cutV vs lo hi) := by
  unfold cutD cutV
  rw [← r.length]
  exact (r.drop _).take _
theorem cut_whole {xs : List D} {lo hi : Option Int} (h : HT.sIx xs.length 0 lo = 0 ∧ HT.sIx xs.length xs.length hi = xs.length) : cutD xs lo hi = xs := by
  unfold cutD
  rw [h.1, h.2]
  simp
/-- a[lo:hi]: a text; a tuple; a list (the new one never changes) -/
def dCut (x : D) (lo hi : Option Int) (m : Mu) (R : D → Mu → Prop) : Prop := match x with
  | .str z => z.length ≤ sizeLine ∧ R (.str (cutS z lo hi)) m
  | .tup xs => R (.tup (cutD xs lo hi)) m
  | .fls xs => R (.lst (cutD xs lo hi)) m
  | x => ∃ xs, lstOf x m = some xs ∧ R (.lst (cutD xs lo hi)) m
def liftSl (K : PySem.W.Frag) : V → Option Int → Option Int → Hp → VK → Prop := fun x lo hi H Q => ∃ F G E m dx R, Rl K F G H E m ∧ Rp K F E dx x ∧ dCut dx lo hi m R ∧ Cont K F G E R Q
theorem sl_d : SlR X (liftSl X.K) := by
  refine SlR.imp (((sl_list (X := X)).or (sl_tupA (X := X))).or (sl_str (X := X))) fun x lo hi H Q ⟨F, G, E, m, dx, R, rl, rx, h, k⟩ => ?_
  have go : (∃ xs, lstOf dx m = some xs ∧ R (.lst (cutD xs lo hi)) m) → (rSlL X.K x lo hi H Q ∨ rSlA X.K x lo hi H Q) ∨ rSlS x lo hi H Q := fun ⟨xs, h1, h2⟩ => by
    obtain ⟨a, vs, rfl, q, rv⟩ := rl.lst_ok rx h1
    exact .inl (.inl ⟨a, vs, rfl, SqL.of q, fun p hp => k.lst rl (cut_rps rv lo hi) h2 hp⟩)
  cases dx with
  | str z => cases rx; exact .inr ⟨z, rfl, h.1, k.val rl (.str _) h.2⟩
  | tup xs =>
    obtain ⟨a, vs, e, q, rv⟩ := rl.tup_ok rx
    subst e
    refine .inl (.inr ⟨a, vs, rfl, q, fun w => ?_, fun _ p hp => k.tup rl (cut_rps rv lo hi) h hp⟩)
    have w' : cutD xs lo hi = xs := cut_whole (by rw [rv.length]; exact w)
    have h' : R (.tup (cutD xs lo hi)) m := h
    rw [w'] at h'
    exact k.val rl rx h'
  | fls xs =>
    cases rx with
    | fls q rv => exact .inl (.inl ⟨_, _, rfl, rl.sub.sqL q, fun p hp => k.lst rl (cut_rps rv lo hi) h hp⟩)
  | _ => exact go h
def dSl (ta : TDE) (tl th : TDO) : TDE := fun δ m R => ta δ m fun x m1 => tl δ m1 fun lo m2 => th δ m2 fun hi m3 => dCut x lo hi m3 R
theorem de_slice {lo hi : Option Expr} {tl th : TDO} (ha : DE X a ta) (hl : DO X lo tl) (hh : DO X hi th) : DE X (.Subscript a (.Slice lo hi none p2) pos) (dSl ta tl th) :=
  ⟨PE.imp (pe_slice sl_d ha.pe hl.po hh.po) fun σ H Q ⟨F, G, E, m, δ, R, rl, rs, h, k⟩ => ⟨F, G, E, m, δ, _, rl, rs, h, fun x m1 F1 E1 H1 v f1 e1 rl1 rp1 h1 => ⟨F1, G, E1, m1, δ, _, rl1, rs.mono f1 e1, h1, fun o m2 F2 E2 H2 f2 e2 rl2 h2 =>
    ⟨F2, G, E2, m2, δ, _, rl2, (rs.mono f1 e1).mono f2 e2, h2, fun o' m3 F3 E3 H3 f3 e3 rl3 h3 => ⟨F3, G, E3, m3, x, R, rl3, (rp1.mono f2 e2).mono f3 e3, h3, ((k.on f1 e1).on f2 e2).on f3 e3⟩⟩⟩⟩⟩
/-- xs[::-1] of a list -/
def dRevL (ta : TDE) : TDE := fun δ m R => ta δ m fun x m1 => ∃ xs, lstOf x m1 = some xs ∧ R (.lst xs.reverse) m1
theorem de_revL {k : Nat} {p1 p3 : Pos} (ha : DE X a ta) : DE X (.Subscript a (.Slice none none (some (.UnaryOp .USub (.Constant (.int 1) k p1) p2)) p3) pos) (dRevL ta) :=
  ⟨PE.imp (pe_revL ha.pe) fun σ H Q ⟨F, G, E, m, δ, R, rl, rs, h, k⟩ => ⟨F, G, E, m, δ, _, rl, rs, h, fun x m1 F1 E1 H1 v f1 e1 rl1 rp1 ⟨xs, h1, h2⟩ => by
    obtain ⟨a, vs, rfl, q, rv⟩ := rl1.lst_ok rp1 h1
    exact ⟨a, vs, rfl, SqL.of q, fun p hp => (k.on f1 e1).lst rl1 rv.reverse h2 hp⟩⟩⟩

/-! ### list(..) -/
def dListOf : DRs := fun ds m R => ∃ d xs, ds = [d] ∧ seqOf d m = some xs ∧ R (.lst xs) m
def dListOfM : DRs := fun ds m R => ∃ d xs, ds = [d] ∧ seqOf d m = some xs ∧ R (.ref m.length) (m ++ [.lst xs])
theorem cd_list : CallD X (.type "list") dListOf := cd_of call_list_of fun vs H Q F G E m ds R rl rs ⟨d, xs, e, h1, h2⟩ c => by
  subst e
  obtain ⟨v, rfl, rp⟩ := rps1 rs
  obtain ⟨a, ws, rfl, q, rv⟩ := rl.seq_ok rp h1
  exact ⟨a, ws, rfl, q, fun l hl => c.lst rl rv h2 hl⟩
theorem cd_listM : CallD X (.type "list") dListOfM := cd_of call_list_of fun vs H Q F G E m ds R rl rs ⟨d, xs, e, h1, h2⟩ c => by
  subst e
  obtain ⟨v, rfl, rp⟩ := rps1 rs
  obtain ⟨a, ws, rfl, q, rv⟩ := rl.seq_ok rp h1
  exact ⟨a, ws, rfl, q, fun l hl => c.lstM rl rv h2 hl⟩

/-! ### sorted, all, any, sum -/
def sortI (ns : List Int) : List Int := ns.mergeSort (fun a b => decide (a ≤ b))
theorem sortI_perm (ns : List Int) : (sortI ns).Perm ns := List.mergeSort_perm _ _
theorem sortI_sorted (ns : List Int) : (sortI ns).Pairwise (· ≤ ·) := by
  have h := List.pairwise_mergeSort (le := fun a b : Int => decide (a ≤ b)) (fun a b c h1 h2 => by simp at *; omega) (fun a b => by simp; omega) ns
  exact h.imp fun h => of_decide_eq_true h
theorem sortI_eq {ns ms : List Int} (p : ms.Perm ns) (s : ms.Pairwise (· ≤ ·)) : ms = sortI ns := PySem.W.ksm_same (p.trans (sortI_perm ns).symm) s (sortI_sorted ns)
theorem rps_ints {K : PySem.W.Frag} {F : Hp} {E : Eta} : ∀ {ns : List Int} {vs : List V}, Rps K F E (ns.map D.int) vs → vs = ns.map V.int
  | [], _, .nil => rfl
  | n :: ns, _, .cons r t => by
    cases r
    rw [rps_ints t]
    rfl
theorem ints_rps {K : PySem.W.Frag} {F : Hp} {E : Eta} : ∀ (ns : List Int), Rps K F E (ns.map D.int) (ns.map V.int)
  | [] => .nil
  | n :: ns => .cons (.int n) (ints_rps ns)
theorem rps_bls {K : PySem.W.Frag} {F : Hp} {E : Eta} : ∀ {ns : List Bool} {vs : List V}, Rps K F E (ns.map D.bl) vs → vs = ns.map V.bl
  | [], _, .nil => rfl
  | n :: ns, _, .cons r t => by
    cases r
    rw [rps_bls t]
    rfl
def lsqOf (d : D) (m : Mu) : Option (List D) := match d with
  | .fls xs => some xs
  | d => lstOf d m
theorem Rl.lsq_ok {K : PySem.W.Frag} {F G H : Hp} {E : Eta} {m : Mu} {d : D} {v : V} (r : Rl K F G H E m) {xs : List D} (p : Rp K F E d v) (h : lsqOf d m = some xs) : ∃ a vs, v = .ref a ∧ SqL K H a vs ∧ Rps K F E xs vs := by
  have go : lstOf d m = some xs → ∃ a vs, v = .ref a ∧ SqL K H a vs ∧ Rps K F E xs vs := fun z => by
    obtain ⟨a, vs, e1, e2, e3⟩ := r.lst_ok p z
    exact ⟨a, vs, e1, SqL.of e2, e3⟩
  cases d with
  | fls ys =>
    cases h
    cases p with
    | fls e t => exact ⟨_, _, rfl, r.sub.sqL e, t⟩
  | _ => exact go h
def dSortI : DRs := fun ds m R => ∃ (d : D) (ns : List Int), ds = [d] ∧ lsqOf d m = some (ns.map .int) ∧ R (.lst ((sortI ns).map .int)) m
theorem cd_sortI : CallD X (.builtin "sorted") dSortI := cd_of cr_sortedI fun vs H Q F G E m ds R rl rs ⟨d, ns, e, h1, h2⟩ c => by
  subst e
  obtain ⟨v, rfl, rp⟩ := rps1 rs
  obtain ⟨a, ws, rfl, q, rv⟩ := rl.lsq_ok rp h1
  rw [rps_ints rv] at q
  refine ⟨a, ns, rfl, q, fun ns' p hp hs hn => ?_⟩
  rw [sortI_eq hp hs]
  exact c.lst rl (ints_rps _) h2 hn
def dAll : DRs := fun ds m R => ∃ (d : D) (bs : List Bool), ds = [d] ∧ lsqOf d m = some (bs.map .bl) ∧ R (.bl (bs.all id)) m
def dAny : DRs := fun ds m R => ∃ (d : D) (bs : List Bool), ds = [d] ∧ lsqOf d m = some (bs.map .bl) ∧ R (.bl (bs.any id)) m
theorem cd_all (hc : X.calm = true) : CallD X (.builtin "all") dAll := cd_of (cr_all hc) fun vs H Q F G E m ds R rl rs ⟨d, bs, e, h1, h2⟩ c => by
  subst e
  obtain ⟨v, rfl, rp⟩ := rps1 rs
  obtain ⟨a, ws, rfl, q, rv⟩ := rl.lsq_ok rp h1
  rw [rps_bls rv] at q
  exact ⟨a, bs, rfl, q, c.val rl (.bl _) h2⟩
theorem cd_any (hc : X.calm = true) : CallD X (.builtin "any") dAny := cd_of (cr_any hc) fun vs H Q F G E m ds R rl rs ⟨d, bs, e, h1, h2⟩ c => by
  subst e
  obtain ⟨v, rfl, rp⟩ := rps1 rs
  obtain ⟨a, ws, rfl, q, rv⟩ := rl.lsq_ok rp h1
  rw [rps_bls rv] at q
  exact ⟨a, bs, rfl, q, c.val rl (.bl _) h2⟩
def dSum : DRs := fun ds m R => ∃ (d : D) (ns : List Int), ds = [d] ∧ lsqOf d m = some (ns.map .int) ∧ R (.int ns.sum) m
theorem cd_sum (hc : X.calm = true) : CallD X (.builtin "sum") dSum := cd_of (cr_sum hc) fun vs H Q F G E m ds R rl rs ⟨d, ns, e, h1, h2⟩ c => by
  subst e
  obtain ⟨v, rfl, rp⟩ := rps1 rs
  obtain ⟨a, ws, rfl, q, rv⟩ := rl.lsq_ok rp h1
  rw [rps_ints rv] at q
  exact ⟨a, ns, rfl, q, c.val rl (.int _) h2⟩
end
end DL
set_option Elab.async false
set_option linter.all false
set_option maxRecDepth 100000
set_option maxHeartbeats 4000000
/-! D6b: methods of lists, stars, sets of ints, dicts. -/
namespace DL
open PySem PySem.Spec PyProof.Rows L2 SlX

/-! ### methods of built-in types -/
abbrev DMt := D → List D → Mu → (D → Mu → Prop) → Prop
def liftM (K : PySem.W.Frag) (g : DMt) : V → List V → Hp → VK → Prop := fun x xs H Q => ∃ F G E m dx ds R, Rl K F G H E m ∧ Rp K F E dx x ∧ Rps K F E ds xs ∧ g dx ds m R ∧ Cont K F G E R Q
def MtD (X : Cx) (id : String) (g : DMt) : Prop := MtR X id (liftM X.K g)
theorem MtR.imp {X : Cx} {id : String} {r r' : V → List V → Hp → VK → Prop} (h : MtR X id r) (k : ∀ x xs H Q, r' x xs H Q → r x xs H Q) : MtR X id r' := fun pins s σ H x xs v us Q I rx rs q => h pins s σ H x xs v us Q I rx rs (k _ _ _ _ q)
def tyD (T : String) (x : D) (m : Mu) : Prop := match x with
  | .str _ => T = "str"
  | x => T = "list" ∧ ∃ xs, lsqOf x m = some xs
theorem tyD_ok {K : PySem.W.Frag} {F G H : Hp} {E : Eta} {m : Mu} {T : String} {d : D} {v : V} (r : Rl K F G H E m) (p : Rp K F E d v) (h : tyD T d m) : tyV K T v H := by
  have go : (T = "list" ∧ ∃ xs, lsqOf d m = some xs) → tyV K T v H := fun ⟨e, xs, h⟩ => by
    obtain ⟨a, vs, rfl, q, _⟩ := r.lsq_ok p h
    exact .inl ⟨e, _, q⟩
  cases d with
  | str x => cases p; exact h
  | _ => exact go h
def dBM (T : String) (g : DMt) (to : TDE) (t : TDA) : TDE := fun δ m R => to δ m fun x m1 => tyD T x m1 ∧ t δ m1 fun ds m2 => g x ds m2 R
section
variable {X : Cx} {o e : Expr} {es : List Expr} {to : TDE} {t : TDA} {name : Str} {apos cpos pos : Pos} {T id : String} {g : DMt}
theorem bm_lift {σ : L2.St} {H : Hp} {Q : VK} (h : liftE X.K (dBM T g to t) σ H Q) : tBM X.K T (liftM X.K g) (liftE X.K to) (liftA X.K t) σ H Q := by
  obtain ⟨F, G, E, m, δ, R, rl, rs, h, k⟩ := h
  refine ⟨F, G, E, m, δ, _, rl, rs, h, fun x m1 F1 E1 H1 v f1 e1 rl1 rp1 ⟨ty, h1⟩ => ⟨tyD_ok rl1 rp1 ty, F1, G, E1, m1, δ, _, rl1, rs.mono f1 e1, h1, fun ds m2 F2 E2 H2 vs f2 e2 rl2 rp2 h2 => ?_⟩⟩
  exact ⟨F2, G, E2, m2, x, ds, R, rl2, rp1.mono f2 e2, rp2, h2, (k.on f1 e1).on f2 e2⟩
theorem de_bm (hm : MtD X id g) (ho : DE X o to) (ha : DA X (e :: es) t) (pa : PlainAttrs T) (slot : Slot T name id) (hty : typeOf (.builtin id) = pure (.type "method_descriptor"))
    (hbase : attributeBase o name X.env (eval o X.env) = eval o X.env := by rfl)
    (hfew : ((backTo cpos (starEach (e :: es) X.env)).all (fun x => !x.1) && (backToKw cpos (keywordEach [] X.env)).all (fun x => x.1.isSome)
      && decide ((e :: es).length + ([] : List Keyword).length + (if ([] : List Keyword).isEmpty then 0 else 1) < 30)) = true := by rfl)
    (hline : (apos.endLine == cpos.line) = true := by rfl) (hs : starEach (e :: es) X.env = (false, eval e X.env) :: starEach es X.env := by rfl) (hplain : (backTo cpos (starEach es X.env)).any (·.1) = false := by rfl) :
    DE X (.Call (.Attribute o name apos) (e :: es) [] cpos) (dBM T g to t) :=
  ⟨PE.imp (pe_bm pa slot hty hm ho.pe ha.pa hbase hfew hline hs hplain) fun σ H Q h => bm_lift h⟩
theorem de_bm0 (hm : MtD X id g) (ho : DE X o to) (pa : PlainAttrs T) (slot : Slot T name id) (hty : typeOf (.builtin id) = pure (.type "method_descriptor"))
    (hbase : attributeBase o name X.env (eval o X.env) = eval o X.env := by rfl) (hline : (apos.endLine == cpos.line) = true := by rfl) :
    DE X (.Call (.Attribute o name apos) [] [] cpos) (dBM T g to dNil) :=
  ⟨PE.imp (pe_bm0 pa slot hty hm ho.pe hbase hline) fun σ H Q ⟨F, G, E, m, δ, R, rl, rs, h, k⟩ => ⟨F, G, E, m, δ, _, rl, rs, h, fun x m1 F1 E1 H1 v f1 e1 rl1 rp1 ⟨ty, h1⟩ => ⟨tyD_ok rl1 rp1 ty, F1, G, E1, m1, x, [], R, rl1, rp1, .nil, h1, k.on f1 e1⟩⟩⟩

/-! ### lists of the store -/
theorem Rl.lstM {K : PySem.W.Frag} {F G H : Hp} {E : Eta} {m : Mu} {n : Nat} {v : V} {xs : List D} (r : Rl K F G H E m) (p : Rp K F E (.ref n) v) (h : m[n]? = some (.lst xs)) :
    ∃ a vs, v = .ref a ∧ H a = some (.lst vs) ∧ Rps K F E xs vs ∧ ∀ ys ws, Rps K F E ys ws → Rl K F G (upd H a (.lst ws)) E (m.set n (.lst ys)) := by
  obtain ⟨q, hq, rfl, vs, a, b, c⟩ := r.ref_at p h
  exact ⟨_, vs, rfl, a, b, fun ys ws t => r.write hq (fun b h1 h2 => upd_ne h1) ⟨ws, upd_same, t, c⟩⟩
def dAppend : DMt := fun x ds m R => ∃ n xs y, x = .ref n ∧ ds = [y] ∧ m[n]? = some (.lst xs) ∧ xs.length < sizeLine ∧ R .non (m.set n (.lst (xs ++ [y])))
theorem md_append : MtD X "list.append" dAppend := MtR.imp mt_append fun x vs H Q ⟨F, G, E, m, dx, ds, R, rl, rx, rs, ⟨n, xs, y, e1, e2, hm, hz, h⟩, k⟩ => by
  subst e1 e2
  obtain ⟨v, rfl, rp⟩ := rps1 rs
  obtain ⟨a, ws, rfl, ha, rv, wr⟩ := rl.lstM rx hm
  exact ⟨a, ws, v, rfl, rfl, ha, by rw [← rv.length]; exact hz, k .non _ F E _ .non FSub.refl ESub.refl (wr _ _ (rv.append (.cons rp .nil))) .non h⟩
def dPop : DMt := fun x ds m R => ∃ n xs y, x = .ref n ∧ ds = [] ∧ m[n]? = some (.lst xs) ∧ xs[xs.length - 1]? = some y ∧ R y (m.set n (.lst xs.dropLast))
theorem rps_dropLast {K : PySem.W.Frag} {F : Hp} {E : Eta} {ds : List D} {vs : List V} (r : Rps K F E ds vs) : Rps K F E ds.dropLast vs.dropLast := by
  rw [List.dropLast_eq_take, List.dropLast_eq_take, ← r.length]
  exact r.take _
theorem md_pop : MtD X "list.pop" dPop := MtR.imp mt_pop fun x vs H Q ⟨F, G, E, m, dx, ds, R, rl, rx, rs, ⟨n, xs, y, e1, e2, hm, hy, h⟩, k⟩ => by
  subst e1 e2
  cases rs
  obtain ⟨a, ws, rfl, ha, rv, wr⟩ := rl.lstM rx hm
  obtain ⟨v, hv, rp⟩ := rv.get hy
  exact ⟨a, ws, v, rfl, rfl, ha, by rw [← rv.length]; exact hv, k y _ F E _ v FSub.refl ESub.refl (wr _ _ (rps_dropLast rv)) rp h⟩
def dPopAt : DMt := fun x ds m R => ∃ n xs i j y, x = .ref n ∧ ds = [.int i] ∧ m[n]? = some (.lst xs) ∧ -(2 ^ 63) ≤ i ∧ i < 2 ^ 63 ∧ seqIndex? i xs.length = some j ∧ xs[j]? = some y ∧ R y (m.set n (.lst (xs.eraseIdx j)))
theorem md_popAt : MtD X "list.pop" dPopAt := MtR.imp mt_popAt fun x vs H Q ⟨F, G, E, m, dx, ds, R, rl, rx, rs, ⟨n, xs, i, j, y, e1, e2, hm, h1, h2, hj, hy, h⟩, k⟩ => by
  subst e1 e2
  obtain ⟨v, rfl, rp⟩ := rps1 rs
  cases rp
  obtain ⟨a, ws, rfl, ha, rv, wr⟩ := rl.lstM rx hm
  obtain ⟨v, hv, rp⟩ := rv.get hy
  exact ⟨a, ws, i, j, v, rfl, rfl, ha, h1, h2, by rw [← rv.length]; exact hj, hv, k y _ F E _ v FSub.refl ESub.refl (wr _ _ (rv.eraseIdx j)) rp h⟩
/-- xs[i] = e -/
def dSetIx (te to ti : TDE) : TDS := fun D1 δ m => te δ m fun v m1 => to δ m1 fun x m2 => ti δ m2 fun y m3 => ∃ n xs i j, x = .ref n ∧ y = .int i ∧ m3[n]? = some (.lst xs) ∧ ixN xs.length i = some j ∧ D1.nx δ (m3.set n (.lst (xs.set j v)))
theorem dst_setIx {o i value : Expr} {ti te : TDE} {spos tpos : Pos} (ho : DE X o to) (hi : DE X i ti) (hv : DE X value te) (hs : swapsWithSole [.Subscript o i tpos] value spos.line X.env = pure false := by rfl) (hw : swappedStores [.Subscript o i tpos] value X.env = pure none := by rfl)
    (h1 : (assignEach [.Subscript o i tpos] X.env).map (·.2) = [assign (.Subscript o i tpos) X.env] := by rfl)
    (ha : ∀ v, assign (.Subscript o i tpos) X.env v = (do
      let ov ← holding [v] (eval o X.env)
      let iv ← holding [v, ov] (eval i X.env)
      standAt tpos
      holding [v, ov, iv] (setItem ov iv v)
      release [v, ov, iv] []) := by intro _; rfl) : DSt X (.Assign [.Subscript o i tpos] value spos) (dSetIx te to ti) :=
  ⟨PS.imp (ps_asg hv.pe (pg_sub ho.pe hi.pe set_list ha) hs hw h1) fun D σ H ⟨F, G, E, m, δ, R, rl, rs, h, k⟩ => ⟨F, G, E, m, δ, _, rl, rs, h, fun y m1 F1 E1 H1 u f1 e1 rl1 rp1 h1 => ⟨F1, G, E1, m1, δ, _, rl1, rs.mono f1 e1, h1, fun x m2 F2 E2 H2 v f2 e2 rl2 rp2 h2 =>
    ⟨F2, G, E2, m2, δ, _, rl2, (rs.mono f1 e1).mono f2 e2, h2, fun w m3 F3 E3 H3 v3 f3 e3 rl3 rp3 ⟨n, xs, i, j, ex, ey, hm, hj, h3⟩ => by
      subst ex ey
      cases rp3
      obtain ⟨a, ws, ea, ha, rv, wr⟩ := rl3.lstM (rp2.mono f3 e3) hm
      subst ea
      refine ⟨a, ws, i, j, rfl, rfl, ha, by rw [← rv.length]; exact hj, ?_⟩
      exact ((k.on f1 e1).on f2 e2).nx _ _ F3 E3 _ σ f3 e3 (wr _ _ (rv.set ((rp1.mono f2 e2).mono f3 e3) j)) (((rs.mono f1 e1).mono f2 e2).mono f3 e3) h3⟩⟩⟩⟩

/-! ### stars -/
def dStar (te : TDE) (t : TDA) : TDA := fun δ m R => te δ m fun x m1 => ∃ xs, seqOf x m1 = some xs ∧ t δ m1 fun ys m2 => R (xs ++ ys) m2
theorem da_star {p : Pos} {te : TDE} (he : DE X e te) (hr : DA X es t) (hs : starEach (.Starred e p :: es) X.env = (true, eval e X.env) :: starEach es X.env := by rfl) : DA X (.Starred e p :: es) (dStar te t) :=
  ⟨PA.imp (StX.pa_star he.pe hr.pa hs) fun σ H Q ⟨F, G, E, m, δ, R, rl, rs, h, k⟩ => ⟨F, G, E, m, δ, _, rl, rs, h, fun x m1 F1 E1 H1 v f1 e1 rl1 rp1 ⟨xs, hx, h1⟩ => by
    obtain ⟨a, ws, rfl, q, rv⟩ := rl1.seq_ok rp1 hx
    exact ⟨a, ws, rfl, q.symm, F1, G, E1, m1, δ, _, rl1, rs.mono f1 e1, h1, fun ys m2 F2 E2 H2 vs f2 e2 rl2 rp2 h2 => (k.on f1 e1) _ m2 F2 E2 H2 _ f2 e2 rl2 ((rv.mono f2 e2).append rp2) h2⟩⟩⟩

/-! ### sets of ints -/
/-- the members, ascending -/
def setI (ns : List Int) : List Int := sortI ns.eraseDups
theorem asc_ext : ∀ {a b : List Int}, a.Pairwise (· < ·) → b.Pairwise (· < ·) → (∀ k, k ∈ a ↔ k ∈ b) → a = b
  | [], [], _, _, _ => rfl
  | [], y :: ys, _, _, h => absurd ((h y).mpr List.mem_cons_self) (by simp)
  | x :: xs, [], _, _, h => absurd ((h x).mp List.mem_cons_self) (by simp)
  | x :: xs, y :: ys, ha, hb, h => by
    rw [List.pairwise_cons] at ha hb
    have e : x = y := by
      rcases List.mem_cons.mp ((h x).mp List.mem_cons_self) with e | e
      · exact e
      · rcases List.mem_cons.mp ((h y).mpr List.mem_cons_self) with e2 | e2
        · exact e2.symm
        · have h1 := hb.1 x e
          have h2 := ha.1 y e2
          omega
    subst e
    congr 1
    refine asc_ext ha.2 hb.2 fun k => ⟨fun hk => ?_, fun hk => ?_⟩
    · rcases List.mem_cons.mp ((h k).mp (List.mem_cons_of_mem _ hk)) with e | e
      · have := ha.1 k hk
        omega
      · exact e
    · rcases List.mem_cons.mp ((h k).mpr (List.mem_cons_of_mem _ hk)) with e | e
      · have := hb.1 k hk
        omega
      · exact e
theorem nodup_eraseDups (ns : List Int) : ns.eraseDups.Nodup := by
  induction h : ns.length using Nat.strongRecOn generalizing ns with
  | ind n ih =>
    cases ns with
    | nil => simp
    | cons x xs =>
      rw [List.eraseDups_cons, List.nodup_cons]
      refine ⟨fun hm => ?_, ih _ ?_ _ rfl⟩
      · rw [List.mem_eraseDups, List.mem_filter] at hm
        simp at hm
      · have := List.length_filter_le (fun b => !b == x) xs
        simp only [List.length_cons] at h
        omega
theorem setI_asc (ns : List Int) : (setI ns).Pairwise (· < ·) := by
  unfold setI
  have h1 := sortI_sorted ns.eraseDups
  have h2 : (sortI ns.eraseDups).Nodup := (sortI_perm _).nodup_iff.mpr (nodup_eraseDups ns)
  rw [List.Nodup] at h2
  exact (h1.and h2).imp fun ⟨a, b⟩ => by omega
theorem mem_setI {ns : List Int} {k : Int} : k ∈ setI ns ↔ k ∈ ns := by
  unfold setI
  rw [(sortI_perm _).mem_iff, List.mem_eraseDups]
/-- sorted(set(t)), t a tuple of fewer than 64 ints -/
def dSortSet (ta : TDE) : TDE := fun δ m R => ta δ m fun x m1 => ∃ ns : List Int, x = .tup (ns.map .int) ∧ ns.length < 64 ∧ R (.lst ((setI ns).map .int)) m1
theorem de_sortSet {a : Expr} {ta : TDE} {p p2 q : Pos} (hm : X.mg "sorted" = none) (hm2 : X.mg "set" = none) (ha : DE X a ta) (hc : X.calm = true := by rfl) (hg : Gl X "sorted" := by rfl) (hg2 : Gl X "set" := by rfl)
    (na : starEach [a] X.env = (false, eval a X.env) :: starEach [] X.env := by rfl) : DE X (.Call (.Name "sorted" p) [.Call (.Name "set" p2) [a] [] q] [] pos) (dSortSet ta) := by
  refine ⟨⟨fun pins s σ H Q I ⟨F, G, E, m, δ, R, rl, rs, h, k⟩ => ?_⟩⟩
  refine Call_ (ld_blt I hg hm (by decide +kernel : bootBuiltins "sorted" = some (.builtin "sorted")) ?_)
  refine PyProof.Rows.callWith_builtin1 (PyProof.Rows.args_cons ?_ rfl) rfl rfl
  refine Call_ (ld_blt I hg2 hm2 PyProof.Rows.boot_set ?_)
  refine PyProof.Rows.callWith_type1 (PyProof.Rows.args_cons (thn (ha.pe.run pins s σ H _ I ⟨F, G, E, m, δ, _, rl, rs, h, fun x m1 F1 E1 H1 v f1 e1 rl1 rp1 h1 => (⟨F1, E1, x, m1, f1, e1, rl1, rp1, h1⟩ : (fun (v : V) (H1 : Hp) => ∃ F1 E1 x m1, FSub F F1 ∧ ESub E E1 ∧ Rl X.K F1 G H1 E1 m1 ∧ Rp X.K F1 E1 x v ∧ ∃ ns : List Int, x = .tup (ns.map .int) ∧ ns.length < 64 ∧ R (.lst ((setI ns).map .int)) m1) v H1)⟩) fun v s1 ⟨x, H1, I1, r1, q1⟩ => PyProof.Rows.args_nil ?_) na) na rfl
  obtain ⟨F1, E1, d, m1, f1, e1, rl1, rp1, ns, ed, h64, h2⟩ := q1
  subst ed
  obtain ⟨a1, vs, ea, sq, rv⟩ := rl1.tup_ok rp1
  rw [rps_ints rv] at sq
  subst ea
  cases r1
  obtain ⟨its, r, pt, hz⟩ := I1.tuple sq
  refine call_set_tupI ns (I1.ok.hd hc) (show s1.heap.IsTuple a1 its.toArray from pt) (by simpa using intsAre_of r) (by unfold scanBound; omega) fun h' tk c hS hcl hk => ?_
  refine PyProof.Rows.args_nil ?_
  have I2 : Inv X pins σ H1 { s1 with heap := h', toks := tk } := I1.kept hk
  refine sorted_set hS (I2.ok.hd hc) (by omega) fun s' p out c' ns' k' g o hp hg' hi hs hm hl => ?_
  have hm' : ∀ j, j ∈ ns' ↔ j ∈ setI ns := fun j => by rw [hm j, mem_setI]; exact decide_eq_true_iff
  have e' : ns' = setI ns := asc_ext hs (setI_asc ns) hm'
  subst e'
  have hlen : ((setI ns).map V.int).length ≤ sizeLine := by rw [List.length_map, hl, sizeLine_eq]; omega
  have hn : H1 p = none := I2.hok.fresh hp
  have J : Inv X pins σ (upd H1 p (.lst ((setI ns).map V.int))) { s1 with heap := s'.heap, gens := s'.gens, drawn := s'.drawn, toks := s'.toks } :=
    I1.call (ch := []) (Un.laid (fun b o e => k' b o (hk b o e)) (Nat.le_trans (by
      have : s1.heap.objs.size ≤ h'.objs.size := by
        rcases Nat.lt_or_ge h'.objs.size s1.heap.objs.size with z | z
        · obtain ⟨ob, _, _, _, ho, _⟩ := hS
          have hl : s1.heap.objs.size < h'.objs.size := by
            rcases Nat.lt_or_ge s1.heap.objs.size h'.objs.size with y | y
            · exact y
            · exact absurd ho (by unfold Heap.get?; simp [Array.getElem?_eq_none y])
          omega
        · exact z
      exact this) hp) hn) (I2.hok.laid k' hp ⟨hlen, out.toList, c', vals_of_ints hi, hg'⟩) (by rw [g]; exact I1.bare) (fun _ z => nomatch z)
  have e : s' = { s1 with heap := s'.heap, gens := s'.gens, drawn := s'.drawn, toks := s'.toks } := by
    cases s'
    cases s1
    cases o
    rfl
  rw [e]
  exact ⟨.ref p, _, J, rfl, (k.on f1 e1).lst rl1 (ints_rps _) h2 hn⟩
/-- len(set(xs)), a list of unlike ints -/
def dLenSet (ta : TDE) : TDE := fun δ m R => ta δ m fun x m1 => ∃ ns : List Int, lsqOf x m1 = some (ns.map .int) ∧ ns.Nodup ∧ ns.length ≤ 4000 ∧ R (.int (ns.length : Nat)) m1
theorem de_lenSet {a : Expr} {ta : TDE} {p p2 q : Pos} (hm : X.mg "len" = none) (hm2 : X.mg "set" = none) (ha : DE X a ta) (hc : X.calm = true := by rfl) (hg : Gl X "len" := by rfl) (hg2 : Gl X "set" := by rfl)
    (na : starEach [a] X.env = (false, eval a X.env) :: starEach [] X.env := by rfl) : DE X (.Call (.Name "len" p) [.Call (.Name "set" p2) [a] [] q] [] pos) (dLenSet ta) :=
  ⟨PE.imp (RZ.pe_lenSetI hg hm hg2 hm2 ha.pe hc na) fun σ H Q ⟨F, G, E, m, δ, R, rl, rs, h, k⟩ => ⟨F, G, E, m, δ, _, rl, rs, h, fun x m1 F1 E1 H1 v f1 e1 rl1 rp1 ⟨ns, h1, h2, h3, h4⟩ => by
    obtain ⟨a1, vs, ea, sq, rv⟩ := rl1.lsq_ok rp1 h1
    rw [rps_ints rv] at sq
    exact ⟨a1, ns, ea, sq, h2, h3, (k.on f1 e1).val rl1 (.int _) h4⟩⟩⟩
end
end DL
set_option Elab.async false
set_option linter.all false
set_option maxRecDepth 100000
set_option maxHeartbeats 4000000
/-! D6c: dicts; {**a, **b}. -/
namespace DL
open PySem PySem.Spec PyProof.Rows L2 SlX

/-! ### {**a, **b} below -/
section
variable {prog : Program} {w : World} {A : Around} {E : Value → Shared → Prop} {s : Shared}
theorem mix_noref {k : Key} {v : Value} (h : (mixKind prog w).is k v = true) (a : Addr) : v ≠ .ref a := by
  rintro rfl
  cases k <;> cases h
theorem wpAny_mergeMapping {d o : Addr} {kvs more : List (Key × Value)} {Q : Unit → Shared → Prop} (hdo : d ≠ o) (hoS : (o == sysModules) = false)
    (hd : s.heap.DictOf (mixKind prog w) d kvs) (ho : s.heap.DictOf (mixKind prog w) o more)
    (hQ : ∀ h', h'.DictOf (mixKind prog w) d (merged kvs more) → Heap.SameBut d s.heap h' → Q () { s with heap := h' })
    (hsz : kvs.length + more.length ≤ sizeLine) :
    wpAny (model prog w) A (mergeMapping d (.ref o) false) Q E s := by
  obtain ⟨od, esd, epd, hod, hcd, hdd, hkd, hpd, hnd⟩ := id hd
  obtain ⟨oo, eso, epo, hoo, hco, hdo', hko, hpo, hno⟩ := id ho
  have hlen : more.length = eso.size := by rw [← hpo.length]; simp
  unfold mergeMapping
  refine wpAny_bind (wpAny_isInstance ho.typeIs isSubtype_dict_dict ?_)
  simp only [if_true]
  refine wpAny_bind (wpAny_specialOf ho.typeIs F.slot_dict_iter.lookup ?_)
  refine wpAny_bind (wpAny_pure ?_)
  simp only [beq_self_eq_true]
  rw [if_neg (by rw [hoS]; exact Bool.false_ne_true)]
  have loop : wpAny (model prog w) A (do
      let l ← dictEntries o
      let epoch ← dictEpoch o
      forIn (List.range l.size) PUnit.unit fun i (_ : PUnit) => (do
          let l' ← dictEntries o
          match l'[i]? with
            | some e => do
              holding [e.key, e.val]
                (if false = true then do
                              let r ← dictFind d e.key e.hash
                              if r.isSome = true then do
                                  rule "dict.merge.duplicate-key"
                                  let x ← newExc (Value.type "KeyError") [e.key]
                                  raiseNew x
                                  dictPut d e.hash e.key e.val
                                else dictPut d e.hash e.key e.val
                            else dictPut d e.hash e.key e.val)
              let ep' ← dictEpoch o
              if (ep' != epoch) = true then do
                  (unsupported "dict.changed-during-merge" : Sem PUnit)
                  pure (ForInStep.yield PUnit.unit)
                else pure (ForInStep.yield PUnit.unit)
            | _ => do
              (unsupported "dict.changed-during-merge" : Sem PUnit)
              pure (ForInStep.yield PUnit.unit) : Sem (ForInStep PUnit))
      pure ()) Q E s := by
    refine wpAny_bind (wpAny_dictEntries hoo hdo' ?_)
    refine wpAny_bind (wpAny_dictEpoch hoo hdo' ?_)
    refine wpAny_bind ?_
    refine wpAny_forIn_list _
      (fun rest _ s' => ∃ h' i, s' = { s with heap := h' } ∧ rest = List.range' i (eso.size - i) ∧ i ≤ eso.size ∧ h'.DictOf (mixKind prog w) d (merged kvs (more.take i)) ∧ h'.get? o = some oo ∧ Heap.SameBut d s.heap h')
      _ ?_ ?_ _ _ ⟨s.heap, 0, rfl, by simp [List.range_eq_range'], Nat.zero_le _, by simpa [merged] using hd, hoo, Heap.SameBut.refl _ _⟩
    · rintro x rest b s' ⟨h', i, rfl, hr, hi, hd', hoo', hs'⟩
      have hlt : i < eso.size := by
        rcases Nat.lt_or_ge i eso.size with h | h
        · exact h
        · rw [Nat.sub_eq_zero_of_le h] at hr; simp at hr
      obtain ⟨rfl, hrest⟩ : x = i ∧ rest = List.range' (i + 1) (eso.size - (i + 1)) := by
        have e : eso.size - i = (eso.size - (i + 1)) + 1 := by omega
        rw [e, List.range'_succ] at hr
        injection hr with h1 h2
        exact ⟨h1, h2⟩
      refine wpAny_bind (wpAny_dictEntries hoo' hdo' ?_)
      rw [Array.getElem?_eq_getElem hlt]
      obtain ⟨kv, hkv⟩ : ∃ kv, more[x]? = some kv := ⟨more[x]'(by rw [hlen]; exact hlt), List.getElem?_eq_getElem _⟩
      obtain ⟨k, v⟩ := kv
      obtain ⟨hkey, hval⟩ := hpo.get? (e := eso[x]) (by simp [hlt]) hkv
      obtain ⟨k', hkey', hhash⟩ := hko eso[x] (Array.getElem_mem hlt)
      obtain rfl : k' = k := (mixKind prog w).inj _ _ _ hkey' hkey
      have hmx : (merged kvs (more.take x)).length ≤ sizeLine := by
        have e1 := merged_length_le kvs (more.take x)
        have e2 : (more.take x).length ≤ more.length := by rw [List.length_take]; omega
        omega
      obtain ⟨o2, es2, ep2, ho2, hc2, hd2, hk2, hp2, hn2⟩ := id hd'
      have hes : es2.size ≤ sizeLine := by
        have e1 := hp2.length
        have e2 : es2.toList.length = es2.size := by simp
        omega
      have go : wpAny (model prog w) A (dictPut d eso[x].hash eso[x].key eso[x].val) (fun _ s' => ∃ h'', s' = { s with heap := h'' } ∧ h''.DictOf (mixKind prog w) d (stored (merged kvs (more.take x)) k' v) ∧ Heap.SameBut d h' h'') E { s with heap := h' } := by
        unfold dictPut
        rw [hhash, hval]
        refine wpAny_bind (wpAny_dictFind_of hkey ho2 hd2 hk2 ?_)
        have hidx : (es2.findIdx? fun e => (mixKind prog w).is k' e.key) = (merged kvs (more.take x)).findIdx? fun kv => decide (kv.1 = k') := by
          rw [← hp2.findIdx k']; obtain ⟨l⟩ := es2; simp
        cases hi2 : es2.findIdx? fun e => (mixKind prog w).is k' e.key with
        | some i =>
          refine wpAny_updateDict ho2 hd2 ⟨_, rfl, ⟨_, _, ep2, Heap.get?_update_self _ ho2 (Obj.isFreed_of_dict (Obj.data_mapDict hd2 _)),
            hc2.mapDict _, Obj.data_mapDict hd2 _, hk2.modify _ _, ?_, ?_⟩, Heap.SameBut.update ..⟩
          · rw [stored, if_pos (any_of_findIdx_some (hidx ▸ hi2))]
            have hl : (es2.toList.findIdx? fun e => (mixKind prog w).is k' e.key) = some i := by rw [← hi2]; obtain ⟨l⟩ := es2; simp
            have := hp2.modify hn2 hl v
            obtain ⟨l⟩ := es2
            simpa using this
          · rw [stored, if_pos (any_of_findIdx_some (hidx ▸ hi2)), keys_map_store]; exact hn2
        | none =>
          have hnot : k' ∉ (merged kvs (more.take x)).map (·.1) := not_mem_of_findIdx_none (hidx ▸ hi2)
          have hany : ¬ ((merged kvs (more.take x)).any fun kv => decide (kv.1 = k')) = true := by
            rw [List.any_eq_true]; rintro ⟨kv, hkv, he⟩
            exact hnot (List.mem_map.mpr ⟨kv, hkv, of_decide_eq_true he⟩)
          refine wpAny_updateDictKeys (hz := hes) ho2 hd2 ⟨_, rfl, ⟨_, _, ep2 + 1, Heap.get?_update_self _ ho2 (Obj.isFreed_of_dict (Obj.data_mapDictKeys hd2 _)),
            hc2.mapDictKeys _, Obj.data_mapDictKeys hd2 _, hk2.push hkey _, ?_, ?_⟩, Heap.SameBut.update ..⟩
          · rw [stored, if_neg hany]
            have := hp2.append hkey ((mixKind prog w).hash k') v
            obtain ⟨l⟩ := es2
            simpa using this
          · rw [stored, if_neg hany, List.map_append, List.nodup_append]
            refine ⟨hn2, by simp, ?_⟩
            intro a ha b hb
            simp only [List.map_cons, List.map_nil, List.mem_singleton] at hb
            subst hb
            exact fun e => hnot (e ▸ ha)
      refine wpAny_bind (wpAny_holding ?_)
      rw [if_neg (by decide)]
      refine wpAny_mono go (fun _ s2 ⟨h'', e2, hd'', hs''⟩ => ?_) fun _ _ e => e
      subst e2
      have hoo'' : h''.get? o = some oo := (hs''.2 o (Ne.symm hdo)).trans hoo'
      refine wpAny_bind (wpAny_dictEpoch hoo'' hdo' ?_)
      rw [if_neg (by simp)]
      exact wpAny_pure ⟨h'', x + 1, rfl, hrest, hlt, by rw [merged_take_succ kvs more x (k', v) hkv]; exact hd'', hoo'', hs'.trans hs''⟩
    · rintro b s' ⟨h', i, rfl, hr, hi, hd', hoo', hs'⟩
      have hin : i = eso.size := by
        rcases Nat.lt_or_ge i eso.size with h | h
        · have e : eso.size - i = (eso.size - (i + 1)) + 1 := by omega
          rw [e, List.range'_succ] at hr; exact nomatch hr
        · exact Nat.le_antisymm hi h
      refine wpAny_pure (hQ h' ?_ hs')
      rw [hin, ← hlen, List.take_length] at hd'; exact hd'
  refine wpAny_bind (wpAny_dictEntries hod hdd ?_)
  by_cases hemp : esd.isEmpty = true
  · rw [if_pos hemp]
    refine wpAny_bind (wpAny_dictEntries hoo hdo' ?_)
    refine wpAny_bind ?_
    rw [← Array.forIn_toList]
    refine wpAny_forIn_list _ (fun rest _ s' => s' = s ∧ ∀ e ∈ rest, ∃ k, (mixKind prog w).is k e.key = true) _ ?_ ?_ _ _ ⟨rfl, fun e he => ?_⟩
    · rintro x rest b s' ⟨rfl, hm⟩
      obtain ⟨k, hk⟩ := hm x List.mem_cons_self
      cases hx : x.key with
      | ref a => exact absurd hx (mix_noref hk a)
      | _ => exact wpAny_pure ⟨rfl, fun e he => hm e (List.mem_cons_of_mem _ he)⟩
    · rintro b s' ⟨rfl, _⟩
      exact loop
    · obtain ⟨k, hk, _⟩ := hko e (by simpa using he)
      exact ⟨k, hk⟩
  · rw [if_neg hemp]
    exact loop
theorem wpAny_Dict_stars2 {a b : Expr} {env : Env} {pos : Pos} {Q : Value → Shared → Prop}
    (h : wpAny (model prog w) A (eval a env) (fun v s1 => ∃ o more, v = .ref o ∧ s.heap.objs.size ≠ o ∧ (o == sysModules) = false ∧ s1.heap.DictOf (mixKind prog w) s.heap.objs.size [] ∧ s1.heap.DictOf (mixKind prog w) o more ∧ more.length ≤ 4000 ∧
      ∀ h1, h1.DictOf (mixKind prog w) s.heap.objs.size (merged [] more) → Heap.SameBut s.heap.objs.size s1.heap h1 →
        wpAny (model prog w) A (eval b env) (fun u s2 => ∃ o2 more2 kv2, u = .ref o2 ∧ s.heap.objs.size ≠ o2 ∧ (o2 == sysModules) = false ∧ s2.heap.DictOf (mixKind prog w) s.heap.objs.size kv2 ∧ s2.heap.DictOf (mixKind prog w) o2 more2 ∧ kv2.length ≤ 4000 ∧ more2.length ≤ 4000 ∧
          ∀ h2, h2.DictOf (mixKind prog w) s.heap.objs.size (merged kv2 more2) → Heap.SameBut s.heap.objs.size s2.heap h2 → Q (.ref s.heap.objs.size) { s2 with heap := h2 }) E { s1 with heap := h1 })
      E { s with heap := s.heap.push { cls := .type "dict", data := .dict #[] } }) : wpAny (model prog w) A (eval (.Dict [none, none] [a, b] pos) env) Q E s := by
  rw [arm_eval_Dict]
  refine wpAny_bind (wpAny_standAt ?_)
  show wpAny _ _ (dictDisplay [(none, do let x ← eval a env; standAt pos; pure x), (none, do let x ← eval b env; standAt pos; pure x)]) _ _ _
  unfold dictDisplay
  simp only [List.forIn_cons, List.forIn_nil, List.isEmpty_nil, if_true, pure_bind, bind_assoc]
  refine wpAny_bind (wpAny_alloc ?_)
  refine wpAny_bind (wpAny_holding (wpAny_bind (wpAny_mono h (fun v s1 h1 => ?_) fun _ _ e => e)))
  obtain ⟨o, more, rfl, n1, n2, d1, d2, l1, h1⟩ := h1
  refine wpAny_bind (wpAny_standAt (wpAny_pure ?_))
  refine wpAny_bind (wpAny_onRaise (wpAny_tryCatch (wpAny_onRaise (wpAny_holding (wpAny_mergeMapping n1 n2 d1 d2 (fun h' m1 sb => ?_) (by rw [sizeLine_eq]; simp only [List.length_nil]; omega))))))
  refine wpAny_bind (wpAny_holding (wpAny_bind (wpAny_mono (h1 h' m1 sb) (fun v s2 h2 => ?_) fun _ _ e => e)))
  obtain ⟨o2, more2, kv2, rfl, n3, n4, d3, d4, l3, l2, h2⟩ := h2
  refine wpAny_bind (wpAny_standAt (wpAny_pure ?_))
  refine wpAny_bind (wpAny_onRaise (wpAny_tryCatch (wpAny_onRaise (wpAny_holding (wpAny_mergeMapping n3 n4 d3 d4 (fun h'' m2 sb2 => ?_) (by rw [sizeLine_eq]; omega))))))
  exact wpAny_pure (h2 h'' m2 sb2)
end

/-! ### {**a, **b} -/
def tStar2 (ta tb : TE) : TE := fun σ H Q => ∀ p, H p = none → ta σ (upd H p (.dK [])) fun x H1 => ∃ a k1, x = .ref a ∧ a ≠ p ∧ Rd H1 a (.dK k1) ∧ H1 p = some (.dK []) ∧ k1.length ≤ 4000 ∧
  tb σ (upd H1 p (.dK (mergeK [] k1))) fun y H2 => ∃ b k2, y = .ref b ∧ b ≠ p ∧ Rd H2 b (.dK k2) ∧ H2 p = some (.dK (mergeK [] k1)) ∧ k2.length ≤ 4000 ∧ Q (.ref p) (upd H2 p (.dK (mergeK (mergeK [] k1) k2)))
theorem pe_star2 {X : Cx} {a b : Expr} {ta tb : TE} {pos : Pos} (ha : PE X a ta) (hb : PE X b tb) : PE X (.Dict [none, none] [a, b] pos) (tStar2 ta tb) := by
  refine ⟨fun pins s σ H Q I h => ?_⟩
  have hn := I.hok.fresh (Nat.le_refl s.heap.objs.size)
  have I1 := I.laid (a := s.heap.objs.size) (o := .dK []) (h' := s.heap.push { cls := .type "dict", data := .dict #[] }) (t' := s.toks) (fun _ _ q => Heap.get?_push_of_some _ q) (Nat.le_refl _) (dk_empty s.heap I.big)
  refine wpAny_Dict_stars2 (thn (ha.run pins _ σ _ _ I1 (h _ hn)) fun v s1 ⟨x, H1, I1, rx, a, k1, ex, na, hk1, hp, l1, q1⟩ => ?_)
  subst ex
  obtain rfl : v = Value.ref a := rx
  obtain ⟨z1, hd1, vs1, r1, dd1⟩ := dk_rd I1.hok hk1
  obtain ⟨z0, hd0, vs0, r0, dd0⟩ := dk_of I1.hok hp
  cases r0
  refine ⟨a, vs1, rfl, Ne.symm na, hd1, dd0, dd1, by rw [← r1.length]; exact l1, fun h1 m1 sb => ?_⟩
  have hz : (mergeK [] k1).length ≤ sizeLine := by
    have := length_mergeK k1 []
    rw [List.length_nil] at this
    rw [sizeLine_eq]; omega
  have he : ∃ q, h1.get? s.heap.objs.size = some q := let ⟨q, _, _, hq, _⟩ := m1; ⟨q, hq⟩
  have I2 := d_write (t' := s1.toks) I1 (by rw [hp]; exact True.intro) sb he (dk_new hz hd0 (r1.merge .nil) m1)
  refine thn (hb.run pins _ σ _ _ I2 q1) fun v2 s2 ⟨y, H2, I2, ry, b, k2, ey, nb, hk2, hp2, l2, q2⟩ => ?_
  subst ey
  obtain rfl : v2 = Value.ref b := ry
  obtain ⟨z2, hd2, vs2, r2, dd2⟩ := dk_rd I2.hok hk2
  obtain ⟨z3, hd3, vs3, r3, dd3⟩ := dk_of I2.hok hp2
  refine ⟨b, vs2, vs3, rfl, Ne.symm nb, hd2, dd3, dd2, by rw [← r3.length]; have := length_mergeK k1 []; simp only [List.length_nil] at this; omega, by rw [← r2.length]; exact l2, fun h2 m2 sb2 => ?_⟩
  have hz2 : (mergeK (mergeK [] k1) k2).length ≤ sizeLine := by
    have h1 := length_mergeK k1 []
    have h2 := length_mergeK k2 (mergeK [] k1)
    rw [List.length_nil] at h1
    rw [sizeLine_eq]; omega
  have he2 : ∃ q, h2.get? s.heap.objs.size = some q := let ⟨q, _, _, hq, _⟩ := m2; ⟨q, hq⟩
  exact ⟨.ref s.heap.objs.size, _, d_write (t' := s2.toks) I2 (by rw [hp2]; exact True.intro) sb2 he2 (dk_new hz2 hd3 (r2.merge r3) m2), rfl, q2⟩
end DL
set_option Elab.async false
set_option linter.all false
set_option maxRecDepth 100000
set_option maxHeartbeats 4000000
/-! D6d: dicts with keys ints and texts. -/
namespace DL
open PySem PySem.Spec PyProof.Rows L2 SlX

/-! ### tables of contents -/
def vlD (kvs : List (Key × D)) (k : Key) : Option D := (kvs.find? fun kv => decide (kv.1 = k)).map (·.2)
def ptD (kvs : List (Key × D)) (k : Key) (d : D) : List (Key × D) :=
  if (kvs.any fun kv => decide (kv.1 = k)) = true then kvs.map (fun kv => if kv.1 = k then (kv.1, d) else kv) else kvs ++ [(k, d)]
def dpD (kvs : List (Key × D)) (k : Key) : List (Key × D) := kvs.filter fun kv => decide (kv.1 ≠ k)
def mgD (kvs more : List (Key × D)) : List (Key × D) := more.foldl (fun acc kv => ptD acc kv.1 kv.2) kvs
def keyD : D → Option Key
  | .int i => some (.inl i)
  | .str x => some (.inr x)
  | _ => none
def kD : Key → D
  | .inl i => .int i
  | .inr x => .str x
section
variable {K : PySem.W.Frag} {F : Hp} {E : Eta}
theorem keyD_ok {d : D} {v : V} {k : Key} (r : Rp K F E d v) (h : keyD d = some k) : v = kV k := by
  cases r <;> first | cases h; rfl | cases h
theorem kD_rp (k : Key) : Rp K F E (kD k) (kV k) := by cases k <;> first | exact .int _ | exact .str _
theorem RpK.val (k : Key) : ∀ {ds : List (Key × D)} {vs : List (Key × V)}, RpK K F E ds vs → (vlD ds k = none ∧ valV vs k = none) ∨ ∃ d v, vlD ds k = some d ∧ valV vs k = some v ∧ Rp K F E d v
  | _, _, .nil => .inl ⟨rfl, rfl⟩
  | _, _, .cons (k := k') r t => by
    by_cases e : k' = k
    · exact .inr ⟨_, _, by simp [vlD, List.find?_cons, e], by simp [valV, List.find?_cons, e], r⟩
    · have := RpK.val k t
      simp only [vlD, valV, List.find?_cons, decide_eq_false e] at this ⊢
      exact this
theorem RpK.val_some {k : Key} {ds : List (Key × D)} {vs : List (Key × V)} {d : D} (r : RpK K F E ds vs) (h : vlD ds k = some d) : ∃ v, valV vs k = some v ∧ Rp K F E d v := by
  rcases r.val k with ⟨a, _⟩ | ⟨d', v, a, b, c⟩
  · rw [a] at h; cases h
  · rw [a] at h; cases h; exact ⟨v, b, c⟩
theorem RpK.val_none {k : Key} {ds : List (Key × D)} {vs : List (Key × V)} (r : RpK K F E ds vs) (h : vlD ds k = none) : valV vs k = none := by
  rcases r.val k with ⟨_, b⟩ | ⟨d', v, a, b, c⟩
  · exact b
  · rw [a] at h; cases h
theorem RpK.isSome (k : Key) {ds : List (Key × D)} {vs : List (Key × V)} (r : RpK K F E ds vs) : (valV vs k).isSome = (vlD ds k).isSome := by
  rcases r.val k with ⟨a, b⟩ | ⟨d', v, a, b, c⟩ <;> rw [a, b] <;> rfl
theorem RpK.any (k : Key) : ∀ {ds : List (Key × D)} {vs : List (Key × V)}, RpK K F E ds vs → (vs.any fun kv => decide (kv.1 = k)) = ds.any fun kv => decide (kv.1 = k)
  | _, _, .nil => rfl
  | _, _, .cons r t => by simp only [List.any_cons, RpK.any k t]
theorem RpK.repl (k : Key) {d : D} {v : V} (rp : Rp K F E d v) : ∀ {ds : List (Key × D)} {vs : List (Key × V)}, RpK K F E ds vs → RpK K F E (ds.map fun kv => if kv.1 = k then (kv.1, d) else kv) (vs.map fun kv => if kv.1 = k then (kv.1, v) else kv)
  | _, _, .nil => .nil
  | _, _, .cons (k := k') r t => by
    by_cases e : k' = k
    · simp only [List.map_cons, if_pos e]
      exact .cons rp (RpK.repl k rp t)
    · simp only [List.map_cons, if_neg e]
      exact .cons r (RpK.repl k rp t)
theorem RpK.append : ∀ {ds es : List (Key × D)} {vs ws : List (Key × V)}, RpK K F E ds vs → RpK K F E es ws → RpK K F E (ds ++ es) (vs ++ ws)
  | _, _, _, _, .nil, q => q
  | _, _, _, _, .cons r t, q => .cons r (RpK.append t q)
theorem RpK.put (k : Key) {d : D} {v : V} {ds : List (Key × D)} {vs : List (Key × V)} (r : RpK K F E ds vs) (rp : Rp K F E d v) : RpK K F E (ptD ds k d) (putK vs k v) := by
  unfold ptD putK
  rw [r.any k]
  split
  · exact r.repl k rp
  · exact r.append (.cons rp .nil)
theorem RpK.drop (k : Key) : ∀ {ds : List (Key × D)} {vs : List (Key × V)}, RpK K F E ds vs → RpK K F E (dpD ds k) (dropK vs k)
  | _, _, .nil => .nil
  | _, _, .cons (k := k') r t => by
    have := RpK.drop k t
    by_cases e : k' = k
    · simp only [dpD, dropK, List.filter_cons, e] at this ⊢
      simpa using this
    · simp only [dpD, dropK, List.filter_cons, decide_eq_true (show k' ≠ k from e)] at this ⊢
      exact .cons r this
theorem RpK.merge : ∀ {es : List (Key × D)} {ws : List (Key × V)} {ds : List (Key × D)} {vs : List (Key × V)}, RpK K F E es ws → RpK K F E ds vs → RpK K F E (mgD ds es) (mergeK vs ws)
  | _, _, _, _, .nil, q => q
  | _, _, _, _, .cons (k := k') (d := d) (v := v) (ds := ds') (vs := vs') r t, q => by
    have := RpK.merge t (q.put k' r)
    exact this
theorem RpK.length : ∀ {ds : List (Key × D)} {vs : List (Key × V)}, RpK K F E ds vs → ds.length = vs.length
  | _, _, .nil => rfl
  | _, _, .cons _ t => congrArg (· + 1) (RpK.length t)
theorem Rl.dic_away {G H : Hp} {m : Mu} {d : D} {a : Addr} {xs : List (Key × D)} {p : Addr} {o : HO} (r : Rl K F G H E m) (q : Rp K F E d (.ref a)) (h : dicOf d m = some xs) (g : G p = some o) : a ≠ p := by
  rintro rfl
  cases d with
  | dic ys =>
    cases q with
    | dic e t =>
      have := r.fg _ _ g
      rcases e with e | ⟨_, e⟩ <;> rw [this] at e <;> cases e
  | ref n =>
    cases q with
    | ref e =>
      have := (r.dis n _ e).2.2.1
      rw [this] at g
      cases g
  | _ => cases h
end

section
variable {X : Cx} {o i e f value : Expr} {pos pos' tpos apos cpos p2 : Pos} {td ty tv te tx : TDE}
/-! ### reading -/
def dDGet (td ty : TDE) : TDE := fun δ m R => td δ m fun x m1 => ty δ m1 fun y m2 => ∃ kvs k d, dicOf x m2 = some kvs ∧ keyD y = some k ∧ vlD kvs k = some d ∧ R d m2
theorem de_dget (hu : X.A.units + 1 < cLine) (ho : DE X o td) (hi : DE X i ty) (hs : NoSl i := by intro _ _; rfl) : DE X (.Subscript o i pos) (dDGet td ty) :=
  ⟨PE.imp (pe_dget hu ho.pe hi.pe hs) fun σ H Q ⟨F, G, E, m, δ, R, rl, rs, h, k⟩ => ⟨F, G, E, m, δ, _, rl, rs, h, fun x m1 F1 E1 H1 v f1 e1 rl1 rp1 h1 => ⟨F1, G, E1, m1, δ, _, rl1, rs.mono f1 e1, h1,
    fun y m2 F2 E2 H2 u f2 e2 rl2 rp2 ⟨kvs, key, d, h2, h3, h4, h5⟩ => by
      obtain ⟨a, vs, rfl, q, rv⟩ := rl2.dic_ok (rp1.mono f2 e2) h2
      obtain ⟨w, hw, rw'⟩ := rv.val_some h4
      exact ⟨a, w, rfl, .inl ⟨vs, key, q, keyD_ok rp2 h3, hw.symm⟩, ((k.on f1 e1).on f2 e2).val rl2 rw' h5⟩⟩⟩⟩
def dInDic (neg : Bool) : DR2 := fun y x m R => ∃ kvs k, dicOf x m = some kvs ∧ keyD y = some k ∧ R (.bl (if neg then !(vlD kvs k).isSome else (vlD kvs k).isSome)) m
def rInDic (neg : Bool) : R2 := fun y x H Q => ∃ a kvs k, x = .ref a ∧ Rd H a (.dK kvs) ∧ y = kV k ∧ Q (.bl (if neg then !(valV kvs k).isSome else (valV kvs k).isSome)) H
theorem op_inDic (hu : X.A.units + 1 < cLine) : OpR X (compareOp .In) (rInDic false) := fun pins s σ H x y v u Q I rx ry ⟨a, kvs, k, e1, e2, e3, h⟩ => by
  subst e1 e3
  obtain rfl : u = Value.ref a := ry
  exact d_in hu I (.inl ⟨kvs, k, e2, rfl, rfl⟩) rx fun s3 I3 => ⟨.bl (valV kvs k).isSome, H, I3, rfl, h⟩
theorem op_notInDic (hu : X.A.units + 1 < cLine) : OpR X (compareOp .NotIn) (rInDic true) := fun pins s σ H x y v u Q I rx ry ⟨a, kvs, k, e1, e2, e3, h⟩ => by
  subst e1 e3
  obtain rfl : u = Value.ref a := ry
  exact d_notIn hu I (.inl ⟨kvs, k, e2, rfl, rfl⟩) rx fun s3 I3 => ⟨.bl (!(valV kvs k).isSome), H, I3, rfl, h⟩
theorem od_inDic (hu : X.A.units + 1 < cLine) : OpD X (compareOp .In) (dInDic false) := OpR.imp (op_inDic hu) fun x y H Q ⟨F, G, E, m, dx, dy, R, rl, rx, ry, ⟨xs, key, h1, h2, h⟩, k⟩ => by
  obtain ⟨a, vs, rfl, q, rv⟩ := rl.dic_ok ry h1
  exact ⟨a, vs, key, rfl, q, keyD_ok rx h2, by rw [rv.isSome]; exact k.val rl (.bl _) h⟩
theorem od_notInDic (hu : X.A.units + 1 < cLine) : OpD X (compareOp .NotIn) (dInDic true) := OpR.imp (op_notInDic hu) fun x y H Q ⟨F, G, E, m, dx, dy, R, rl, rx, ry, ⟨xs, key, h1, h2, h⟩, k⟩ => by
  obtain ⟨a, vs, rfl, q, rv⟩ := rl.dic_ok ry h1
  exact ⟨a, vs, key, rfl, q, keyD_ok rx h2, by rw [rv.isSome]; exact k.val rl (.bl _) h⟩
/-- d.get(k), d.get(k, x) -/
def dDGet1 (td ty : TDE) : TDE := fun δ m R => td δ m fun x m1 => (∃ kvs, dicOf x m1 = some kvs) ∧ ty δ m1 fun y m2 => ∃ kvs k, dicOf x m2 = some kvs ∧ keyD y = some k ∧ R ((vlD kvs k).getD .non) m2
def dDGet2 (td ty tx : TDE) : TDE := fun δ m R => td δ m fun x m1 => (∃ kvs, dicOf x m1 = some kvs) ∧ ty δ m1 fun y m2 => tx δ m2 fun z m3 => ∃ kvs k, dicOf x m3 = some kvs ∧ keyD y = some k ∧ R ((vlD kvs k).getD z) m3
theorem RpK.getD {K : PySem.W.Frag} {F : Hp} {E : Eta} {ds : List (Key × D)} {vs : List (Key × V)} (r : RpK K F E ds vs) (k : Key) {z : D} {w : V} (rz : Rp K F E z w) : Rp K F E ((vlD ds k).getD z) ((valV vs k).getD w) := by
  rcases r.val k with ⟨a, b⟩ | ⟨d', v, a, b, c⟩ <;> rw [a, b]
  · exact rz
  · exact c
theorem de_dget1 (hu : X.A.units + 1 < cLine) (ho : DE X o td) (he : DE X e ty) (m : M1 X o "get" apos e cpos := by exact ⟨rfl, rfl, rfl, rfl⟩) : DE X (.Call (.Attribute o "get" apos) [e] [] cpos) (dDGet1 td ty) :=
  ⟨PE.imp (pe_dget1 hu ho.pe he.pe m) fun σ H Q ⟨F, G, E, m, δ, R, rl, rs, h, k⟩ => ⟨F, G, E, m, δ, _, rl, rs, h, fun x m1 F1 E1 H1 v f1 e1 rl1 rp1 ⟨⟨kv1, hk1⟩, h1⟩ => by
    obtain ⟨a, vs, rfl, q, rv⟩ := rl1.dic_ok rp1 hk1
    refine ⟨a, rfl, .inl ⟨vs, q⟩, F1, G, E1, m1, δ, _, rl1, rs.mono f1 e1, h1, fun y m2 F2 E2 H2 u f2 e2 rl2 rp2 ⟨kvs, key, h2, h3, h5⟩ => ?_⟩
    obtain ⟨a', vs', ea, q', rv'⟩ := rl2.dic_ok (rp1.mono f2 e2) h2
    cases ea
    exact ⟨valV vs' key, .inl ⟨vs', key, q', keyD_ok rp2 h3, rfl⟩, ((k.on f1 e1).on f2 e2).val rl2 (rv'.getD key .non) h5⟩⟩⟩
theorem de_dget2 (hu : X.A.units + 1 < cLine) (ho : DE X o td) (he : DE X e ty) (hf : DE X f tx) (m : M2 X o "get" apos e f cpos := by exact ⟨rfl, rfl, rfl, rfl⟩) : DE X (.Call (.Attribute o "get" apos) [e, f] [] cpos) (dDGet2 td ty tx) :=
  ⟨PE.imp (pe_dget2 hu ho.pe he.pe hf.pe m) fun σ H Q ⟨F, G, E, m, δ, R, rl, rs, h, k⟩ => ⟨F, G, E, m, δ, _, rl, rs, h, fun x m1 F1 E1 H1 v f1 e1 rl1 rp1 ⟨⟨kv1, hk1⟩, h1⟩ => by
    obtain ⟨a, vs, rfl, q, rv⟩ := rl1.dic_ok rp1 hk1
    refine ⟨a, rfl, .inl ⟨vs, q⟩, F1, G, E1, m1, δ, _, rl1, rs.mono f1 e1, h1, fun y m2 F2 E2 H2 u f2 e2 rl2 rp2 h2 => ⟨F2, G, E2, m2, δ, _, rl2, (rs.mono f1 e1).mono f2 e2, h2, fun z m3 F3 E3 H3 w f3 e3 rl3 rp3 ⟨kvs, key, h3, h4, h5⟩ => ?_⟩⟩
    obtain ⟨a', vs', ea, q', rv'⟩ := rl3.dic_ok ((rp1.mono f2 e2).mono f3 e3) h3
    cases ea
    exact ⟨valV vs' key, .inl ⟨vs', key, q', keyD_ok (rp2.mono f3 e3) h4, rfl⟩, (((k.on f1 e1).on f2 e2).on f3 e3).val rl3 (rv'.getD key rp3) h5⟩⟩⟩

/-! ### new dicts -/
def dNewD : TDE := fun _ m R => R (.dic []) m
def dNewDM : TDE := fun _ m R => R (.ref m.length) (m ++ [.dic []])
theorem de_newD : DE X (.Dict [] [] pos) dNewD := ⟨PE.imp pe_dnewK fun σ H Q ⟨F, G, E, m, δ, R, rl, rs, h, k⟩ => fun p hp => k.dic rl .nil h hp⟩
theorem de_newDM : DE X (.Dict [] [] pos) dNewDM := ⟨PE.imp pe_dnewK fun σ H Q ⟨F, G, E, m, δ, R, rl, rs, h, k⟩ => fun p hp => k.dicM rl .nil h hp⟩
/-- dict(d) -/
def rDictOf : List V → Hp → VK → Prop := fun vs H Q => ∃ a kvs, vs = [.ref a] ∧ Rd H a (.dK kvs) ∧ ∀ p, H p = none → Q (.ref p) (upd H p (.dK kvs))
theorem cr_dictOf : CallR X (.type "dict") rDictOf := fun pins s σ H xs us Q I rs ⟨a, kvs, e, hd, h⟩ => by
  subst e
  cases rs with
  | cons r t =>
    cases t
    obtain rfl := (r : _ = Value.ref a)
    exact d_copyOf I hd fun p s' hp I' => ⟨.ref p, _, I', rfl, h p hp⟩
def dDictOf : DRs := fun ds m R => ∃ d kvs, ds = [d] ∧ dicOf d m = some kvs ∧ R (.dic kvs) m
def dDictOfM : DRs := fun ds m R => ∃ d kvs, ds = [d] ∧ dicOf d m = some kvs ∧ R (.ref m.length) (m ++ [.dic kvs])
theorem cd_dictOf : CallD X (.type "dict") dDictOf := CallR.imp cr_dictOf fun vs H Q ⟨F, G, E, m, ds, R, rl, rs, ⟨d, kvs, e1, h1, h⟩, k⟩ => by
  subst e1
  obtain ⟨v, rfl, rp⟩ := rps1 rs
  obtain ⟨a, ws, rfl, q, rv⟩ := rl.dic_ok rp h1
  exact ⟨a, ws, rfl, q, fun p hp => k.dic rl rv h hp⟩
theorem cd_dictOfM : CallD X (.type "dict") dDictOfM := CallR.imp cr_dictOf fun vs H Q ⟨F, G, E, m, ds, R, rl, rs, ⟨d, kvs, e1, h1, h⟩, k⟩ => by
  subst e1
  obtain ⟨v, rfl, rp⟩ := rps1 rs
  obtain ⟨a, ws, rfl, q, rv⟩ := rl.dic_ok rp h1
  exact ⟨a, ws, rfl, q, fun p hp => k.dicM rl rv h hp⟩

/-! ### dicts of the store -/
theorem Rl.dicM {K : PySem.W.Frag} {F G H : Hp} {E : Eta} {m : Mu} {n : Nat} {v : V} {xs : List (Key × D)} (r : Rl K F G H E m) (p : Rp K F E (.ref n) v) (h : m[n]? = some (.dic xs)) :
    ∃ a vs, v = .ref a ∧ H a = some (.dK vs) ∧ RpK K F E xs vs ∧ ∀ ys ws, RpK K F E ys ws → Rl K F G (upd H a (.dK ws)) E (m.set n (.dic ys)) := by
  obtain ⟨q, hq, rfl, vs, a, b, c⟩ := r.ref_at p h
  exact ⟨_, vs, rfl, a, b, fun ys ws t => r.write hq (fun b h1 h2 => upd_ne h1) ⟨ws, upd_same, t, c⟩⟩
/-- d[k] = v -/
def dDPut (td ty te : TDE) : TDS := fun D1 δ m => te δ m fun v m1 => td δ m1 fun x m2 => ty δ m2 fun y m3 => ∃ n kvs k, x = .ref n ∧ m3[n]? = some (.dic kvs) ∧ keyD y = some k ∧ kvs.length < sizeLine ∧ D1.nx δ (m3.set n (.dic (ptD kvs k v)))
theorem dst_dput (hu : X.A.units + 1 < cLine) (ho : DE X o td) (hi : DE X i ty) (hv : DE X value te) (hs : swapsWith value (some (.Subscript o i pos')) pos.line X.env = pure false := by rfl) : DSt X (.Assign [.Subscript o i pos'] value pos) (dDPut td ty te) :=
  ⟨PS.imp (ps_dput hu ho.pe hi.pe hv.pe hs) fun D1 σ H ⟨F, G, E, m, δ, R, rl, rs, h, k⟩ => ⟨F, G, E, m, δ, _, rl, rs, h, fun y m1 F1 E1 H1 u f1 e1 rl1 rp1 h1 => ⟨F1, G, E1, m1, δ, _, rl1, rs.mono f1 e1, h1, fun x m2 F2 E2 H2 v f2 e2 rl2 rp2 h2 =>
    ⟨F2, G, E2, m2, δ, _, rl2, (rs.mono f1 e1).mono f2 e2, h2, fun w m3 F3 E3 H3 v3 f3 e3 rl3 rp3 ⟨n, kvs, key, ex, hm, hk, hz, h3⟩ => by
      subst ex
      obtain ⟨a, ws, ea, ha, rv, wr⟩ := rl3.dicM (rp2.mono f3 e3) hm
      subst ea
      have e := keyD_ok rp3 hk
      subst e
      exact ⟨a, _, rfl, .inl ⟨ws, key, ha, rfl, by rw [← rv.length]; exact hz, rfl⟩, ((k.on f1 e1).on f2 e2).nx _ _ F3 E3 _ σ f3 e3 (wr _ _ (rv.put key ((rp1.mono f2 e2).mono f3 e3))) (((rs.mono f1 e1).mono f2 e2).mono f3 e3) h3⟩⟩⟩⟩⟩
/-- d.pop(k), k in d -/
def dDPop (td ty : TDE) : TDE := fun δ m R => td δ m fun x m1 => (∃ kvs, dicOf x m1 = some kvs) ∧ ty δ m1 fun y m2 => ∃ n kvs k v, x = .ref n ∧ m2[n]? = some (.dic kvs) ∧ keyD y = some k ∧ vlD kvs k = some v ∧ R v (m2.set n (.dic (dpD kvs k)))
theorem de_dpop (ho : DE X o td) (he : DE X e ty) (m : M1 X o "pop" apos e cpos := by exact ⟨rfl, rfl, rfl, rfl⟩) : DE X (.Call (.Attribute o "pop" apos) [e] [] cpos) (dDPop td ty) :=
  ⟨PE.imp (pe_dpop1 ho.pe he.pe m) fun σ H Q ⟨F, G, E, m, δ, R, rl, rs, h, k⟩ => ⟨F, G, E, m, δ, _, rl, rs, h, fun x m1 F1 E1 H1 v f1 e1 rl1 rp1 ⟨⟨kv1, hk1⟩, h1⟩ => by
    obtain ⟨a, vs, rfl, q, rv⟩ := rl1.dic_ok rp1 hk1
    refine ⟨a, rfl, .inl ⟨vs, q⟩, F1, G, E1, m1, δ, _, rl1, rs.mono f1 e1, h1, fun y m2 F2 E2 H2 u f2 e2 rl2 rp2 ⟨n, kvs, key, w, ex, h2, h3, h4, h5⟩ => ?_⟩
    subst ex
    obtain ⟨a', ws, ea, ha, rv', wr⟩ := rl2.dicM (rp1.mono f2 e2) h2
    cases ea
    obtain ⟨z, hz, rz⟩ := rv'.val_some h4
    exact ⟨ws, key, z, ha, keyD_ok rp2 h3, hz, ((k.on f1 e1).on f2 e2) w _ F2 E2 _ z FSub.refl ESub.refl (wr _ _ (rv'.drop key)) rz h5⟩⟩⟩

/-! ### {**a, **b} -/
def dStar2 (ta tb : TDE) : TDE := fun δ m R => ta δ m fun x m1 => ∃ k1, dicOf x m1 = some k1 ∧ k1.length ≤ 4000 ∧ tb δ m1 fun y m2 => ∃ k2, dicOf y m2 = some k2 ∧ k2.length ≤ 4000 ∧ R (.dic (mgD (mgD [] k1) k2)) m2
theorem de_star2 {a b : Expr} {ta tb : TDE} (ha : DE X a ta) (hb : DE X b tb) : DE X (.Dict [none, none] [a, b] pos) (dStar2 ta tb) :=
  ⟨PE.imp (pe_star2 ha.pe hb.pe) fun σ H Q ⟨F, G, E, m, δ, R, rl, rs, h, k⟩ => fun p hp => by
    have gp : G p = none := (rl.fresh hp).2.1
    refine ⟨F, _, E, m, δ, _, rl.kept hp, rs, h, fun x m1 F1 E1 H1 v f1 e1 rl1 rp1 ⟨k1, h1, l1, h2⟩ => ?_⟩
    obtain ⟨a1, vs1, rfl, q1, rv1⟩ := rl1.dic_ok rp1 h1
    refine ⟨a1, vs1, rfl, rl1.dic_away rp1 h1 upd_same, q1, rl1.gsub p _ upd_same, by rw [← rv1.length]; exact l1, ?_⟩
    refine ⟨F1, _, E1, m1, δ, _, rl1.rekept gp, rs.mono f1 e1, h2, fun y m2 F2 E2 H2 u f2 e2 rl2 rp2 ⟨k2, h3, l2, h4⟩ => ?_⟩
    obtain ⟨a2, vs2, rfl, q2, rv2⟩ := rl2.dic_ok rp2 h3
    refine ⟨a2, vs2, rfl, rl2.dic_away rp2 h3 upd_same, q2, rl2.gsub p _ upd_same, by rw [← rv2.length]; exact l2, ?_⟩
    have fD : F2 p = none := rl2.fg p _ upd_same
    have rl3 := (rl2.rekept (o' := .dK (mergeK (mergeK [] vs1) vs2)) gp).unkept gp
    exact (k.on f1 e1).on f2 e2 |> fun kk => kk (.dic _) m2 _ E2 _ (.ref p) (FSub.upd fD) ESub.refl rl3 (.dic (.inl upd_same) ((rv2.merge ((rv1.merge .nil).mono f2 e2)).mono (FSub.upd fD) ESub.refl)) h4⟩
end
end DL
set_option Elab.async false
set_option linter.all false
set_option maxRecDepth 100000
set_option maxHeartbeats 4000000
/-! D6e: dict comprehensions; list(d.items()). -/
namespace DL
open PySem PySem.Spec PyProof.Rows L2 SlX

def dcL (g : TDG) (tt : TDT) (tk tv : TDE) (δ : DS) (P : Mu → Prop) (Rd : List (Key × D) → Mu → Prop) : List D → List (Key × D) → Mu → Prop
  | [], acc, m => P m ∧ Rd acc m
  | x :: xs, acc, m => P m ∧ g x δ m fun δ2 m2 => tt δ2 m2 fun b m3 => if b = true then tk δ2 m3 fun y m4 => tv δ2 m4 fun z m5 => ∃ k, keyD y = some k ∧ acc.length < sizeLine ∧ dcL g tt tk tv δ P Rd xs (ptD acc k z) m5 else dcL g tt tk tv δ P Rd xs acc m3
def dDc (ti : TDI) (g : TDG) (tt : TDT) (tk tv : TDE) (vs : List Nat) : TDE := fun δ m R => ti δ m fun xs P m1 => dcL g tt tk tv (dwipe δ vs) P (fun acc m2 => R (.dic acc) m2) xs [] m1
section
variable {X : Cx} {pos : Pos}
theorem dc_lift {ti : TDI} {g : TG} {gd : TDG} {tt : TDT} {tk tv : TDE} {vs : List Nat} {σ : L2.St} {H : Hp} {Q : VK} {scope : Scope} {tg : Expr} (hg : DGc X scope tg vs g gd) (h : liftE X.K (dDc ti gd tt tk tv vs) σ H Q) :
    tDc (liftI X.K ti) g (liftT X.K tt) (liftE X.K tk) (liftE X.K tv) vs σ H Q := by
  obtain ⟨F, G, E, m, δ, R, rl, rs, h, k⟩ := h
  refine ⟨F, G, E, m, δ, _, rl, rs, h, fun xs P m1 F1 E1 H1 J f1 e1 rl1 it h1 => fun D0 hD => ?_⟩
  have k1 := k.on f1 e1
  have rs1 := rs.mono f1 e1
  have gD : G D0 = none := (rl1.fresh hD).2.1
  let Wd := fun (acc : List (Key × D)) (rest : List D) (H : Hp) => ∃ F2 E2 m2 ws, FSub F1 F2 ∧ ESub E1 E2 ∧ Rl X.K F2 (upd G D0 (.dK ws)) H E2 m2 ∧ RpK X.K F2 E2 acc ws ∧ dcL gd tt tk tv (dwipe δ vs) P (fun acc m2 => R (.dic acc) m2) rest acc m2
  refine ⟨fun i n H => n = xs.length - i ∧ i ≤ xs.length ∧ ∃ acc, Wd acc (xs.drop i) H, ⟨xs.length, by simp, Nat.zero_le _, [], F1, E1, m1, [], FSub.refl, ESub.refl, rl1.kept hD, .nil, h1⟩, ?_⟩
  rintro i n H2 ⟨rfl, hi, acc, F2, E2, m2, ws, f2, e2, rl2, ra, h2⟩
  by_cases hlt : i < xs.length
  · rw [List.drop_eq_getElem_cons hlt] at h2
    obtain ⟨pm, h2⟩ := h2
    obtain ⟨items, _⟩ := it F2 _ H2 E2 m2 f2 e2 rl2 pm
    obtain ⟨go, yld⟩ := items i xs[i] (List.getElem?_eq_getElem hlt)
    refine .inr ⟨go, fun H => ∃ acc, Wd acc (xs.drop (i + 1)) H, fun H' h' => ⟨xs.length - (i + 1), by omega, rfl, hlt, h'⟩, fun v H3 y => ?_⟩
    obtain ⟨F3, f3, rl3, rp3⟩ := yld v H3 y
    refine hg.ok F3 _ H3 E2 m2 xs[i] v (dwipe δ vs) (L2.wipe σ vs) _ _ rl3 (((rs1.mono f2 e2).mono f3 ESub.refl).wipe vs) rp3 h2 fun σ4 δ4 rs4 w4 h4 => ?_
    refine ⟨by rw [w4, wipe_wipe (fun _ z => z)], F3, _, E2, m2, δ4, _, rl3, rs4, h4, fun b m5 F5 E5 H5 f5 e5 rl5 h5 => ?_⟩
    cases b with
    | true =>
      rw [if_pos rfl] at h5 ⊢
      refine ⟨F5, _, E5, m5, δ4, _, rl5, rs4.mono f5 e5, h5, fun dk m6 F6 E6 H6 v6 f6 e6 rl6 rp6 h6 => ?_⟩
      refine ⟨F6, _, E6, m6, δ4, _, rl6, (rs4.mono f5 e5).mono f6 e6, h6, fun d m7 F7 E7 H7 v7 f7 e7 rl7 rp7 ⟨key, hk, hz, h7⟩ => ?_⟩
      have ra7 : RpK X.K F7 E7 acc ws := (((ra.mono f3 ESub.refl).mono f5 e5).mono f6 e6).mono f7 e7
      exact ⟨ws, key, keyD_ok rp6 hk, rl7.gsub D0 _ upd_same, by rw [← ra7.length]; exact hz, ptD acc key d, F7, E7, m7, putK ws key v7, (((f2.trans f3).trans f5).trans f6).trans f7, ((e2.trans e5).trans e6).trans e7, rl7.rekept gD, ra7.put key rp7, h7⟩
    | false =>
      rw [if_neg (by decide)] at h5 ⊢
      exact ⟨acc, F5, E5, m5, ws, (f2.trans f3).trans f5, e2.trans e5, rl5, (ra.mono f3 ESub.refl).mono f5 e5, h5⟩
  · have e : i = xs.length := by omega
    subst e
    rw [List.drop_length] at h2
    obtain ⟨pm, h2⟩ := h2
    obtain ⟨_, stop⟩ := it F2 _ H2 E2 m2 f2 e2 rl2 pm
    refine .inl ⟨stop _ (Nat.le_refl _), ?_⟩
    have fD : F2 D0 = none := rl2.fg D0 _ upd_same
    exact k1 (.dic acc) m2 _ E2 H2 (.ref D0) (f2.trans (FSub.upd fD)) e2 (rl2.unkept gD) (.dic (.inl upd_same) (ra.mono (FSub.upd fD) ESub.refl)) h2
theorem de_dc {kx vx tg iter : Expr} {ifs : List Expr} {scope : Scope} {own : List (Str × Nat)} {ti : TDI} {g : TG} {gd : TDG} {tt : TDT} {tk tv : TDE} (hc : X.calm = true) (hN : X.N.Nodup) (hi : DI X tg iter ti) (ok : BlkOk X.N X.env.scope scope own)
    (hg : DGc X scope tg (own.map (·.2)) g gd) (ht : ∀ (s : Shared) (H : Hp) (C : Addr) (cl : List (Str × Addr)) (fp : List Addr), DTs (X.blk s H scope (compEnvC scope cl C X.env) fp) ifs tt)
    (hk : ∀ (s : Shared) (H : Hp) (C : Addr) (cl : List (Str × Addr)) (fp : List Addr), DE (X.blk s H scope (compEnvC scope cl C X.env) fp) kx tk)
    (he : ∀ (s : Shared) (H : Hp) (C : Addr) (cl : List (Str × Addr)) (fp : List Addr), DE (X.blk s H scope (compEnvC scope cl C X.env) fp) vx tv) (hs : ∀ x, foldedSetIterable iter X.env x = pure x := by intro _; rfl) :
    DE X (.DictComp kx vx [⟨tg, iter, ifs, 0⟩] scope pos) (dDc ti gd tt tk tv (own.map (·.2))) :=
  ⟨PE.imp (pe_dc hc hN hi.pi ok hg.pg (fun s H C cl fp => (ht s H C cl fp).pt) (fun s H C cl fp => (hk s H C cl fp).pe) (fun s H C cl fp => (he s H C cl fp).pe) hs) fun σ H Q h => dc_lift hg h⟩
end

/-! ### list(d.items()) -/
def rItemsR : V → Hp → VK → Prop := fun x H Q => ∃ (d : Addr) (kvs : List (Key × V)), x = .ref d ∧ Rd H d (.dK kvs) ∧
  ∀ (H' : Hp) (p : Addr) (ts : List Addr), (∀ b o, H b = some o → H' b = some o) → H p = none → (∀ t ∈ ts, H t = none) → p ∉ ts → H' p = some (.lst (ts.map V.ref)) → Paired (fun (t : Addr) (q : Key × V) => H' t = some (.tup [kV q.1, q.2])) ts kvs → Q (.ref p) H'
section
variable {X : Cx} {e : Expr} {te : TE} {p apos cpos pos : Pos}
theorem pe_listItemsR (hc : X.calm = true) (he : PE X e te) (hg : Gl X "list") (hm : X.mg "list" = none) (hv : bootBuiltins "list" = some (.type "list")) (hbase : attributeBase e "items" X.env (eval e X.env) = eval e X.env := by rfl) (hline : (apos.endLine == cpos.line) = true := by rfl)
    (hs : starEach [.Call (.Attribute e "items" apos) [] [] cpos] X.env = (false, eval (.Call (.Attribute e "items" apos) [] [] cpos) X.env) :: starEach [] X.env := by rfl) :
    PE X (.Call (.Name "list" p) [.Call (.Attribute e "items" apos) [] [] cpos] [] pos) (fun σ H Q => te σ H fun x H1 => rItemsR x H1 Q) := by
  refine ⟨fun pins s σ H Q I hq => ?_⟩
  refine wpAny_Call_Name_kw (ld_blt I hg hm hv ?_)
  refine PyProof.Rows.callWith_type1 ?_ hs rfl
  rw [hs]
  show wpAny _ _ (spliced ((false, eval (.Call (.Attribute e "items" apos) [] [] cpos) X.env) :: backTo pos (starEach [] X.env))) _ _ s
  refine Calls.spliced_cons ?_
  refine wpAny_Call_method (T := "dict") (id := "dict.items") hbase rfl hline F.plainAttrs_dict F.slot_dict_items F.type_dict_items (thn (he.run pins s σ H _ I hq) fun u s1 ⟨x, H1, I1, rx, d, kvs, ex, hd, q⟩ => ?_)
  subst ex
  obtain rfl : u = Value.ref d := rx
  obtain ⟨hz, hs0, vs, kv, hdo⟩ := dk_rd I1.hok hd
  obtain ⟨ep, hat⟩ := hdo.dictAt
  have lk : kvs.length = vs.length := Paired.length kv
  have I2 : Inv X pins σ H1 { s1 with heap := s1.heap.push { cls := .type "dict_items", data := .fields #[.ref d] } } := I1.kept (t' := s1.toks) fun b ob q => Heap.get?_push_of_some _ q
  refine ⟨hdo.typeIs, hdo.mapOf.noDict, ?_⟩
  show wpAny _ _ (callWith cpos (.builtin "dict.items") [.ref d] [] []) _ X.xe s1
  refine method_meetsIn F.slot_dict_items F.entry_dict_items rfl (PySem.evalArgs_none ⟨rfl, hdo.typeIs, F.args_dict_items_1 _, _, meets_dict_items (mixKind X.prog X.w) d hs0, ⟨vs, hdo⟩, ?_⟩)
  refine Calls.spliced_nil ?_
  refine PySem.W.kdx_call (knd := mixKind X.prog X.w) (kvs := vs) (ep := ep) (I1.ok.hd hc) ⟨_, Heap.get?_push_size _ rfl, rfl, rfl⟩ (hat.push _) (by omega) fun h' tk acc c as hk hS hl hG hacc => ?_
  obtain ⟨H', k1, k2, k3, k4, k5, k6, J⟩ := LiI.items_laid (tk := tk) I2 hz kv hk hS hl hG hacc
  exact ⟨.ref _, H', J, rfl, q H' _ as k1 k2 k3 k4 k5 k6⟩
end
/-- the pairs as tuples -/
def itD (kvs : List (Key × D)) : List D := kvs.map fun p => .tup [kD p.1, p.2]
/-- what is all new may be taken as what never changes -/
theorem Rl.widen {K : PySem.W.Frag} {F G H H' : Hp} {E : Eta} {m : Mu} (r : Rl K F G H E m) (g : FSub H H') : Rl K (fun a => match H a with
    | some _ => F a
    | none => H' a) G H' E m := by
  have inv : ∀ (n : Nat) (p : Addr × Addr) (mo : MO), E[n]? = some p → m[n]? = some mo → (∃ o, H p.1 = some o) ∧ ∃ o, H p.2 = some o := fun n p mo e1 e2 => (r.obj n p mo e1 e2).there
  have there : ∀ (n : Nat) (p : Addr × Addr), E[n]? = some p → (∃ o, H p.1 = some o) ∧ ∃ o, H p.2 = some o := fun n p e => by
    obtain ⟨mo, _, h⟩ := r.at_ e
    exact h.there
  have fs : FSub F (fun a => match H a with
    | some _ => F a
    | none => H' a) := fun b o e => by
    show (match H b with | some _ => F b | none => H' b) = some o
    rw [r.sub b o e]; exact e
  refine ⟨fun b o e => ?_, fun b o e => g b o (r.gsub b o e), fun b o e => ?_, r.len, fun n p mo e1 e2 => ?_, fun n p e => ?_, r.sep⟩
  · cases hb : H b with
    | none => rw [hb] at e; exact e
    | some u => rw [hb] at e; exact g b o (r.sub b o e)
  · show (match H b with | some _ => F b | none => H' b) = none
    rw [r.gsub b o e]
    exact r.fg b o e
  · obtain ⟨⟨o1, h1⟩, ⟨o2, h2⟩⟩ := inv n p mo e1 e2
    exact (r.obj n p mo e1 e2).at_ fs ESub.refl (by rw [h1]; exact g _ _ h1) (by rw [h2]; exact g _ _ h2)
  · obtain ⟨⟨o1, h1⟩, ⟨o2, h2⟩⟩ := there n p e
    obtain ⟨d1, d2, d3, d4⟩ := r.dis n p e
    refine ⟨?_, ?_, d3, d4⟩
    · show (match H p.1 with | some _ => F p.1 | none => H' p.1) = none
      rw [h1]; exact d1
    · show (match H p.2 with | some _ => F p.2 | none => H' p.2) = none
      rw [h2]; exact d2
section
variable {X : Cx} {e : Expr} {te : TDE} {p apos cpos pos : Pos}
def dItems (te : TDE) : TDE := fun δ m R => te δ m fun x m1 => ∃ kvs, dicOf x m1 = some kvs ∧ R (.lst (itD kvs)) m1
theorem rps_items {K : PySem.W.Frag} {F F' H' : Hp} {E : Eta} (fs : FSub F F') : ∀ {ts : List Addr} {ds : List (Key × D)} {ws : List (Key × V)}, RpK K F E ds ws → Paired (fun (t : Addr) (q : Key × V) => F' t = some (.tup [kV q.1, q.2])) ts ws → Rps K F' E (itD ds) (ts.map V.ref)
  | _, _, _, .nil, .nil => .nil
  | _, _, _, .cons r t, .cons h q => .cons (.tup (SqT.of h) (.cons (kD_rp _) (.cons (r.mono fs ESub.refl) .nil))) (rps_items (H' := H') fs t q)
theorem paired_imp {α β : Type} {P P' : α → β → Prop} : ∀ {as : List α} {bs : List β}, Paired P as bs → (∀ a b, a ∈ as → P a b → P' a b) → Paired P' as bs
  | _, _, .nil, _ => .nil
  | _, _, .cons h t, k => .cons (k _ _ List.mem_cons_self h) (paired_imp t fun a b ha => k a b (List.mem_cons_of_mem _ ha))
theorem de_items (he : DE X e te) (hm : X.mg "list" = none) (hc : X.calm = true := by rfl) (hg : Gl X "list" := by rfl) (hbase : attributeBase e "items" X.env (eval e X.env) = eval e X.env := by rfl) (hline : (apos.endLine == cpos.line) = true := by rfl)
    (hs : starEach [.Call (.Attribute e "items" apos) [] [] cpos] X.env = (false, eval (.Call (.Attribute e "items" apos) [] [] cpos) X.env) :: starEach [] X.env := by rfl) :
    DE X (.Call (.Name "list" p) [.Call (.Attribute e "items" apos) [] [] cpos] [] pos) (dItems te) :=
  ⟨PE.imp (pe_listItemsR hc he.pe hg hm (by decide +kernel) hbase hline hs) fun σ H Q ⟨F, G, E, m, δ, R, rl, rs, h, k⟩ => ⟨F, G, E, m, δ, _, rl, rs, h, fun x m1 F1 E1 H1 v f1 e1 rl1 rp1 ⟨kvs, h1, h2⟩ => by
    obtain ⟨a, vs, rfl, q, rv⟩ := rl1.dic_ok rp1 h1
    refine ⟨a, vs, rfl, q, fun H' b ts g hb ht hn hl hp => ?_⟩
    have w := rl1.widen g
    have fs : FSub F1 (fun a => match H1 a with
        | some _ => F1 a
        | none => H' a) := fun b o e => by
      show (match H1 b with | some _ => F1 b | none => H' b) = some o
      rw [rl1.sub b o e]; exact e
    refine (k.on f1 e1) (.lst (itD kvs)) m1 _ E1 H' (.ref b) fs ESub.refl w (.lst (vs := ts.map V.ref) ?_ (rps_items (H' := H') fs rv (paired_imp hp fun t q ht' h => ?_))) h2
    · show (match H1 b with | some _ => F1 b | none => H' b) = _
      rw [hb]; exact hl
    · show (match H1 t with | some _ => F1 t | none => H' t) = _
      rw [ht t ht']; exact h⟩⟩
end
end DL
set_option Elab.async false
set_option linter.all false
set_option maxRecDepth 100000
set_option maxHeartbeats 4000000
/-! D6f: == and != of the text's own instances. -/
namespace DL
open PySem PySem.Spec PyProof.Rows L2 SlX

/-! ### != by object.__ne__ -/
section
variable {prog : Program} {w : World} {A : Around} {E : Value → Shared → Prop} {s : Shared} {K : PySem.W.Frag} {x C f L : Addr} {ox : Obj} {od : Option Obj} {h₀ : Heap} {m : Str → Option Value} {b tb : Value}
theorem entry_neD {Q : PySem.Fin → Shared → Prop} (hu : A.units < cLine) (X : K.In s.heap) (I : PySem.W.InstAt s.heap x ox C od) (hs : PySem.W.findIn K (.ref C) "__eq__" = some (some (.ref f))) (hf : PySem.W.isFn K (.ref f) = true)
    (h : wpAny (model prog w) A (call (.ref f) [.ref x, b]) (fun v s' => ∃ c, v = .bool c ∧ Q (.done (.ret (.bool (!c)))) s') E s) :
    wpAny (model prog w) A (Builtin.«object.__ne__» ⟨[.ref x, b], []⟩) Q E s := by
  unfold Builtin.«object.__ne__»
  repeat (first
    | with_reducible refine wpAny_cRoomFor hu ?_
    | (refine wpAny_bind (m := callSpecialIfBound? (.ref x) (Str.ofString "__eq__") [b])
        (PySem.W.ifBound_K X I hs hf (wpAny_mono h (fun r s' hr => by
          obtain ⟨c, rfl, hq⟩ := hr
          repeat (first | exact hq | exact wpAny_pure hq | exact wpAny_truthy_bool hq | (refine wpAny_bind (m := truthy (.bool _)) (wpAny_truthy_bool ?_)) | wp_step)) fun _ _ e => e)))
    | wp_step)
theorem ifBound_objNe {args : List Value} {Q : Option Value → Shared → Prop} (X : K.In s.heap) (I : PySem.W.InstAt s.heap x ox C od) (hs : PySem.W.findIn K (.ref C) "__ne__" = some (some (.builtin "object.__ne__")))
    (h : wpAny (model prog w) A (call (.builtin "object.__ne__") (.ref x :: args)) (fun v => Q (some v)) E s) : wpAny (model prog w) A (callSpecialIfBound? (.ref x) "__ne__" args) Q E s := by
  simp only [callSpecialIfBound?, bindSpecialIfBound?]
  refine wpAny_holding (wpAny_bind (wpAny_bind (wpAny_bind (I.type.here ((PySem.W.looks_findIn X hs).here ?_)))))
  refine wpAny_bind (wpAny_askSetting (wpAny_ite ?_))
  have fin : wpAny (model prog w) A (call (.builtin "object.__ne__") ([.ref x] ++ args) >>= fun v => pure (some v)) Q E s := wpAny_bind (wpAny_mono h (fun v s' h' => wpAny_pure h') fun _ _ h' => h')
  split
  · exact wpAny_bind (wpAny_of_eq (F.cmp_object.ne.bind _) (wpAny_pure (by exact fin)))
  · exact wpAny_tryCatch (wpAny_bind (wpAny_of_eq (F.cmp_object.ne.bind _) (wpAny_pure (by exact fin))))
theorem ne_K {Q : Value → Shared → Prop} (hu : A.units + 1 < cLine) (Fm : PyProof.Rows.Fr h₀ L s.heap m) (X₀ : K.In h₀) (I : PySem.W.InstAt s.heap x ox C od) (hb : PySem.W.Looks (model prog w) s.heap (typeOf b) tb) (hn : PySem.W.notFirst K C tb = true)
    (hne : PySem.W.findIn K (.ref C) "__ne__" = some (some (.builtin "object.__ne__"))) (hm : PySem.W.mroIn K C (.type "object") = some true)
    (hs : PySem.W.findIn K (.ref C) "__eq__" = some (some (.ref f))) (hf : PySem.W.isFn K (.ref f) = true)
    (h : wpAny (model prog w) A.in1 (call (.ref f) [.ref x, b]) (fun v s' => ∃ c, v = .bool c ∧ Q (.bool (!c)) s') E s) : wpAny (model prog w) A (richCompare .NotEq (.ref x) b) Q E s := by
  have X := X₀.keeps Fm.keep
  have one : wpAny (model prog w) A (tryCompare (.ref x) "__ne__" b) (fun r s' => ∃ v, r = some v ∧ Q v s') E s := by
    unfold tryCompare
    refine wpAny_bind (ifBound_objNe X I hne ?_)
    refine wpAny_call (codeAny_call_builtin F.cmp_object.ne.plain F.cmpEntry_ne (PySem.W.check_slot F.cmpKind_ne F.cmpSplit_ne (I.type.andThen (PySem.W.looks_mroIn X hm)) (F.cmpArgs_ne _ _) (entry_neD (A := A.in1) hu X I hs hf (wpAny_mono h (fun v s' hv => ?_) fun _ _ e => e))))
    obtain ⟨c, rfl, hq⟩ := hv
    first | exact ⟨c, rfl, wpAny_pure ⟨_, rfl, hq⟩⟩ | exact ⟨c, rfl, _, rfl, hq⟩
  unfold richCompare
  simp only [oneThing_ref]
  refine wpAny_holding (wpAny_bind (wpAny_cRoomFor (by omega) ?_))
  refine wpAny_bind (I.type.here (wpAny_bind (hb.here ?_)))
  split
  · rename_i q
    have e : PySem.W.subIn K tb (.ref C) = some false := by
      rcases Bool.or_eq_true_iff.mp hn with e | e
      · rw [beq_iff_eq.mp e] at q; simp at q
      · exact beq_iff_eq.mp e
    refine wpAny_bind ((PySem.W.looks_subIn X e).here ?_)
    simp only [Bool.false_eq_true, if_false]
    refine wpAny_bind (wpAny_mono one (fun r s' z => ?_) fun _ _ e => e)
    obtain ⟨v, rfl, hq⟩ := z
    exact wpAny_pure hq
  · refine wpAny_bind (wpAny_pure ?_)
    simp only [Bool.false_eq_true, if_false]
    refine wpAny_bind (wpAny_mono one (fun r s' z => ?_) fun _ _ e => e)
    obtain ⟨v, rfl, hq⟩ := z
    exact wpAny_pure hq
end

/-- a def at its address, by its contents -/
abbrev FnD (P : Program) (w : World) (K : PySem.W.Frag) (mg : Str → Option Value) (base : Heap) (k : Nat) (f : Addr) (spec : DRs) : Prop := FnR P w K mg base CX0 k f (spD K spec)
theorem FnD.imp {P : Program} {w : World} {K : PySem.W.Frag} {mg : Str → Option Value} {base : Heap} {k : Nat} {f : Addr} {spec spec' : DRs} (g : FnD P w K mg base k f spec) (h : ∀ ds m R, spec' ds m R → spec ds m R) : FnD P w K mg base k f spec' :=
  FnR.imp g fun vs H Q E ⟨F, G, E', m, ds, R, rl, rs, q, c⟩ => ⟨F, G, E', m, ds, R, rl, rs, h ds m R q, c⟩
theorem FnD.fin {P : Program} {w : World} {K : PySem.W.Frag} {mg : Str → Option Value} {base : Heap} {k : Nat} {f : Addr} {spec spec' : DRs} (g : FnD P w K mg base k f spec) (h : ∀ ds m R, spec' ds m R → spec ds m (Fin m R)) : FnD P w K mg base k f spec' :=
  FnR.imp g fun vs H Q E ⟨F, G, E', m, ds, R, rl, rs, q, c⟩ => by
    refine ⟨F, G, E', m, ds, _, rl, rs, h ds m R q, fun d m' F' E' H' v f' e' rl' rp' hf => ?_⟩
    obtain ⟨d2, m2, F2, E2, f2, e2, rl2, rp2, h2⟩ := Fin.ok rl rl' f' e' rp' hf
    exact c d2 m2 F2 E2 H' v (f'.trans f2) e2 rl2 rp2 h2

/-! ### own instances compared -/
/-- an instance of the class at C, of either kind -/
def InstV (H : Hp) (a C : Addr) : Prop := (∃ dx vs, Slt H a C dx vs) ∨ ∃ dx fs, H a = some (.ins C dx fs)
theorem InstV.at_ {X : Cx} {pins : List (Addr × Obj)} {σ : L2.St} {H : Hp} {s : Shared} {a C : Addr} (I : Inv X pins σ H s) (h : InstV H a C) : ∃ ox od, PySem.W.InstAt s.heap a ox C (some od) := by
  rcases h with ⟨dx, vs, h⟩ | ⟨dx, fs, h⟩
  · obtain ⟨sl, od, _, J, _⟩ := slt_inst I h
    exact ⟨_, _, J⟩
  · obtain ⟨m, J, _⟩ := ins_get I.hok h
    obtain ⟨od, J, _⟩ := J.look
    exact ⟨_, _, J⟩
def rOwnV (K : PySem.W.Frag) (C : Addr) (r : List V → Hp → VK → Prop) : R2 := fun x y H Q => ∃ a b C', x = .ref a ∧ y = .ref b ∧ InstV H a C ∧ InstV H b C' ∧ PySem.W.notFirst K C (.ref C') = true ∧ r [x, y] H Q
section
variable {X : Cx} {C g : Addr} {n : Nat} {spec : DRs}
theorem op_ownV {op : CmpOp} (hop : ∀ a b, compareOp op a b = richCompare op a b) (hs : PySem.W.findIn X.K (.ref C) (cmpInfo op).2.1 = some (some (.ref g))) (hf : PySem.W.isFn X.K (.ref g) = true) (F : FnD X.prog X.w X.K X.mg X.base n g spec)
    (hr : Room n X.A) : OpR X (compareOp op) (rOwnV X.K C (liftC X.K spec)) := by
  intro pins s σ H x y v u Q I rx ry h
  obtain ⟨a, b, C', rfl, rfl, ha, hb, hn, q⟩ := h
  cases (show v = Value.ref a from rx)
  cases (show u = Value.ref b from ry)
  obtain ⟨ox, od, J⟩ := ha.at_ I
  obtain ⟨ox', od', J'⟩ := hb.at_ I
  obtain ⟨m, hF⟩ := I.fr
  rw [hop]
  refine PySem.W.cmp_K (op := op) (tb := .ref C') hr.units0 hF I.ok.mod.kin J J'.type hn hs hf ?_
  refine wpAny_mono (wpAny_call (run_fnR (E := E0) (us := [.ref a, .ref b]) (vs := [.ref a, .ref b]) F hr pass0 I (.cons rfl (.cons rfl .nil)) q)) (fun w s' z => ?_) fun _ _ x => x
  obtain ⟨z', H', I', rz, qz⟩ := z
  exact cmpback rz ⟨z', H', I', rz, qz⟩
theorem op_neV (hne : PySem.W.findIn X.K (.ref C) "__ne__" = some (some (.builtin "object.__ne__"))) (hm : PySem.W.mroIn X.K C (.type "object") = some true)
    (hs : PySem.W.findIn X.K (.ref C) "__eq__" = some (some (.ref g))) (hf : PySem.W.isFn X.K (.ref g) = true) (F : FnD X.prog X.w X.K X.mg X.base n g spec)
    (hr : Room (n + 1) X.A) : OpR X (compareOp .NotEq) (rOwnV X.K C fun vs H Q => liftC X.K spec vs H fun z H1 => ∃ c, z = .bl c ∧ Q (.bl (!c)) H1) := by
  intro pins s σ H x y v u Q I rx ry h
  obtain ⟨a, b, C', rfl, rfl, ha, hb, hn, q⟩ := h
  cases (show v = Value.ref a from rx)
  cases (show u = Value.ref b from ry)
  obtain ⟨ox, od, J⟩ := ha.at_ I
  obtain ⟨ox', od', J'⟩ := hb.at_ I
  obtain ⟨m, hF⟩ := I.fr
  show wpAny (model X.prog X.w) X.A (richCompare .NotEq (.ref a) (.ref b)) (EP X pins σ Q) X.xe s
  refine ne_K (tb := .ref C') (by have := hr.units; omega) hF I.ok.mod.kin J J'.type hn hne hm hs hf ?_
  refine wpAny_mono (wpAny_call (run_at (E := E0) (us := [.ref a, .ref b]) (ws := [.ref a, .ref b]) F hr.in1 I.env0.in1 pass0 I (.cons rfl (.cons rfl .nil)) q)) (fun w s' z => ?_) fun _ _ x => x
  obtain ⟨z', H', I', rz, c, ec, qz⟩ := z
  subst ec
  exact ⟨c, rz, .bl (!c), H', I', rfl, qz⟩
/-- an instance of the class at C -/
def instD (C : Addr) (m : Mu) : D → Prop
  | .obj C' _ => C' = C
  | .ref n => (∃ xs, m[n]? = some (.slt C xs)) ∨ ∃ fs, m[n]? = some (.ins C fs)
  | _ => False
theorem Rl.inst {K : PySem.W.Frag} {F G H : Hp} {E : Eta} {m : Mu} (r : Rl K F G H E m) {d : D} {v : V} (p : Rp K F E d v) (h : instD C m d) : ∃ a, v = .ref a ∧ InstV H a C := by
  cases d with
  | obj C' xs =>
    have e : C' = C := h
    subst e
    cases p with
    | obj q1 q2 t => exact ⟨_, rfl, .inl ⟨_, _, .inr ⟨r.sub _ _ q1, r.sub _ _ q2⟩⟩⟩
  | ref n =>
    rcases (show (∃ xs, m[n]? = some (.slt C xs)) ∨ ∃ fs, m[n]? = some (.ins C fs) from h) with ⟨xs, hm⟩ | ⟨fs, hm⟩
    · obtain ⟨q, _, rfl, vs, a, _⟩ := r.ref_at p hm
      exact ⟨_, rfl, .inl ⟨_, vs, a⟩⟩
    · obtain ⟨q, _, rfl, dx, ws, a, _⟩ := r.ref_at p hm
      exact ⟨_, rfl, .inr ⟨dx, ws, a⟩⟩
  | _ => exact (show False from h).elim
def dOwnC (C : Addr) (spec : DRs) : DR2 := fun x y m R => instD C m x ∧ instD C m y ∧ spec [x, y] m R
def dOwnNe (C : Addr) (spec : DRs) : DR2 := fun x y m R => instD C m x ∧ instD C m y ∧ spec [x, y] m fun z m2 => ∃ c, z = .bl c ∧ R (.bl (!c)) m2
/-- what == of the class at C asks of the text -/
structure EqK (K : PySem.W.Frag) (C g : Addr) : Prop where
  eq : PySem.W.findIn K (.ref C) "__eq__" = some (some (.ref g))
  fn : PySem.W.isFn K (.ref g) = true
  ne : PySem.W.findIn K (.ref C) "__ne__" = some (some (.builtin "object.__ne__"))
  ob : PySem.W.mroIn K C (.type "object") = some true
theorem od_ownEq (q : EqK X.K C g) (F : FnD X.prog X.w X.K X.mg X.base n g spec) {j : Nat} (hr : Room j X.A) (hk : n ≤ j := by decide) : OpD X (compareOp .Eq) (dOwnC C spec) :=
  OpR.imp (op_ownV (op := .Eq) (fun _ _ => rfl) q.eq q.fn F (hr.mono hk)) fun x y H Q ⟨F, G, E, m, dx, dy, R, rl, rx, ry, ⟨h1, h2, h⟩, k⟩ => by
    obtain ⟨a, rfl, ia⟩ := rl.inst rx h1
    obtain ⟨b, rfl, ib⟩ := rl.inst ry h2
    exact ⟨a, b, C, rfl, rfl, ia, ib, by simp [PySem.W.notFirst], F, G, E, m, [dx, dy], R, rl, .cons rx (.cons ry .nil), h, k⟩
theorem od_ownNe (q : EqK X.K C g) (F : FnD X.prog X.w X.K X.mg X.base n g spec) {j : Nat} (hr : Room j X.A) (hk : n + 1 ≤ j := by decide) : OpD X (compareOp .NotEq) (dOwnNe C spec) :=
  OpR.imp (op_neV q.ne q.ob q.eq q.fn F (hr.mono hk)) fun x y H Q ⟨F, G, E, m, dx, dy, R, rl, rx, ry, ⟨h1, h2, h⟩, k⟩ => by
    obtain ⟨a, rfl, ia⟩ := rl.inst rx h1
    obtain ⟨b, rfl, ib⟩ := rl.inst ry h2
    refine ⟨a, b, C, rfl, rfl, ia, ib, by simp [PySem.W.notFirst], F, G, E, m, [dx, dy], _, rl, .cons rx (.cons ry .nil), h, fun z m2 F2 E2 H2 v f2 e2 rl2 rp2 ⟨c, ec, h2⟩ => ?_⟩
    subst ec
    cases rp2
    exact ⟨c, rfl, k (.bl (!c)) m2 F2 E2 H2 _ f2 e2 rl2 (.bl _) h2⟩

/-! ### contents that are equal to themselves, with own instances in them -/
theorem Rl.ext {K : PySem.W.Frag} {F G H H' : Hp} {E : Eta} {m : Mu} (r : Rl K F G H E m) (g : FSub H H') : Rl K F G H' E m := by
  refine ⟨fun b o e => g b o (r.sub b o e), fun b o e => g b o (r.gsub b o e), r.fg, r.len, fun n p mo e1 e2 => ?_, r.dis, r.sep⟩
  obtain ⟨⟨o1, h1⟩, ⟨o2, h2⟩⟩ := (r.obj n p mo e1 e2).there
  exact (r.obj n p mo e1 e2).at_ FSub.refl ESub.refl (by rw [h1]; exact g _ _ h1) (by rw [h2]; exact g _ _ h2)
mutual
/-- tuples of these, own instances that L knows, data without parts -/
inductive OkE (L : Addr → List D → Prop) (k : Nat) : Nat → D → Prop where
  | flat {n : Nat} {d : D} : flatD d = true → OkE L k n d
  | obj {n : Nat} {C : Addr} {xs : List D} : L C xs → k ≤ n → OkE L k n (.obj C xs)
  | tup {n : Nat} {xs : List D} : OkEs L k n xs → OkE L k (n + 1) (.tup xs)
inductive OkEs (L : Addr → List D → Prop) (k : Nat) : Nat → List D → Prop where
  | nil {n : Nat} : OkEs L k n []
  | cons {n : Nat} {d : D} {ds : List D} : OkE L k n d → OkEs L k n ds → OkEs L k n (d :: ds)
end
/-- d, that leans on nothing of the store, is what x and y bear -/
def DSame (K : PySem.W.Frag) (d : D) : Eqv := fun x y H => Rp K H [] d x ∧ Rp K H [] d y
theorem mon_same {K : PySem.W.Frag} {d : D} : Mon (DSame K d) := fun x y H H' e ⟨rx, ry⟩ => ⟨rx.mono e ESub.refl, ry.mono e ESub.refl⟩
theorem Rl.all {K : PySem.W.Frag} {H : Hp} : Rl K H (fun _ => none) H [] [] :=
  ⟨FSub.refl, fun _ _ e => (nomatch e), fun _ _ e => (nomatch e), rfl, fun _ _ _ e => (by simp at e), fun _ _ e => (by simp at e), fun _ _ _ _ e => (by simp at e)⟩
/-- what L promises of the classes it names -/
def LOk (X : Cx) (L : Addr → List D → Prop) (k : Nat) : Prop := ∀ C xs, L C xs → ∃ g spec, EqK X.K C g ∧ FnD X.prog X.w X.K X.mg X.base k g spec ∧ spec [.obj C xs, .obj C xs] [] fun z _ => z = .bl true
theorem rcG_obj {L : Addr → List D → Prop} {k : Nat} (hL : LOk X L k) {C : Addr} {xs : List D} (h : L C xs) : RcG X k (DSame X.K (.obj C xs)) := by
  intro A pins s σ H x y u v sb I rx ry ⟨px, py⟩
  obtain ⟨g, spec, q, Fn, hs⟩ := hL C xs h
  obtain ⟨a, rfl, ia⟩ := Rl.all.inst (C := C) px rfl
  obtain ⟨b, rfl, ib⟩ := Rl.all.inst (C := C) py rfl
  cases (show u = Value.ref a from rx)
  cases (show v = Value.ref b from ry)
  obtain ⟨ox, od, J⟩ := ia.at_ I
  obtain ⟨ox', od', J'⟩ := ib.at_ I
  obtain ⟨mm, hF⟩ := I.fr
  have e0 : Env0 X.prog X.w X.K X.mg X.base A X.stack s H := by
    have e := I.env0
    exact ⟨by rw [sb.fr]; exact e.frames, e.mod, e.bs, e.bsz, e.funs, e.frf, e.hok, e.bare⟩
  refine PySem.W.cmp_K (op := .Eq) (tb := .ref C) sb.room.units0 hF I.ok.mod.kin J J'.type (by simp [PySem.W.notFirst]) q.eq q.fn ?_
  have hq : liftC X.K spec [.ref a, .ref b] H fun z H' => z = .bl true ∧ Ext H H' :=
    ⟨H, fun _ => none, [], [], _, _, Rl.all, .cons px (.cons py .nil), hs, fun d m' F' E' H' v f' e' rl' rp' ed => by
      subst ed
      cases rp'
      exact ⟨rfl, fun b o e => rl'.sub b o (f' b o e)⟩⟩
  refine wpAny_mono (wpAny_call (run_at (E := E0) (us := [.ref a, .ref b]) (ws := [.ref a, .ref b]) Fn sb.room e0 pass0 I (.cons rfl (.cons rfl .nil)) hq)) (fun w s' z => ?_) fun _ _ x => x
  obtain ⟨z', H', I', rz, ez, ex⟩ := z
  subst ez
  cases rz
  exact ⟨rfl, H', I', ex⟩
theorem rps_prs {K : PySem.W.Frag} {H : Hp} : ∀ {ds : List D} {vs ws : List V}, Rps K H [] ds vs → Rps K H [] ds ws → Prs (fun x y H => ∃ d ∈ ds, DSame K d x y H) vs ws H
  | _, _, _, .nil, .nil => Prs.nil
  | _, _, _, .cons r t, .cons r2 t2 => by
    refine Prs.cons ⟨_, List.mem_cons_self, r, r2⟩ ?_
    have := rps_prs t t2
    exact ⟨this.1, fun i x y h1 h2 => by obtain ⟨d, hd, q⟩ := this.2 i x y h1 h2; exact ⟨d, List.mem_cons_of_mem _ hd, q⟩⟩
theorem mon_mem {K : PySem.W.Frag} {ds : List D} : Mon (fun x y H => ∃ d ∈ ds, DSame K d x y H) := fun x y H H' e ⟨d, h, q⟩ => ⟨d, h, mon_same x y H H' e q⟩
theorem refs_obj {K : PySem.W.Frag} {C : Addr} {xs : List D} {x y : V} {H : Hp} (h : DSame K (.obj C xs) x y H) : ∃ a b, x = .ref a ∧ y = .ref b := by
  obtain ⟨h1, h2⟩ := h
  cases h1
  cases h2
  exact ⟨_, _, rfl, rfl⟩
theorem same_tup {K : PySem.W.Frag} {xs : List D} {x y : V} {H : Hp} (h : DSame K (.tup xs) x y H) : DTup K (fun x y H => ∃ d ∈ xs, DSame K d x y H) x y H := by
  obtain ⟨h1, h2⟩ := h
  cases h1 with
  | tup s t =>
    cases h2 with
    | tup s2 t2 => exact ⟨_, _, _, _, rfl, rfl, s, s2, rps_prs t t2⟩
mutual
theorem eqG_same {L : Addr → List D → Prop} {k : Nat} (hL : LOk X L k) : ∀ {n : Nat} {d : D}, OkE L k n d → EqG X n (DSame X.K d)
  | n, d, .flat h => (EqG.mono eqG_flat (Nat.zero_le n)).imp fun x y H ⟨h1, h2⟩ => by
    obtain ⟨e1, f1⟩ := toV_ok h1 h
    obtain ⟨e2, f2⟩ := toV_ok h2 h
    subst e1
    refine ⟨f1, f2, ?_⟩
    rw [e2]
    cases d <;> first | rfl | (simp [toV, eqV]) | cases h
  | n, _, .obj h hk => EqG.mono ((rcG_obj hL h).eqG fun x y H q => refs_obj q) hk
  | _, _, .tup h => (eqG_tup mon_mem (eqGs_same hL h)).imp fun x y H q => same_tup q
theorem eqGs_same {L : Addr → List D → Prop} {k : Nat} (hL : LOk X L k) : ∀ {n : Nat} {ds : List D}, OkEs L k n ds → EqG X n (fun x y H => ∃ d ∈ ds, DSame X.K d x y H)
  | _, _, .nil => fun A pins s σ H x y u v sb I rx ry ⟨d, h, _⟩ => (nomatch h)
  | _, _, .cons h t => by
    refine EqG.imp (EqG.or (eqG_same hL h) (eqGs_same hL t)) fun x y H ⟨d, hd, q⟩ => ?_
    rcases List.mem_cons.mp hd with e | hd
    · subst e; exact .inl q
    · exact .inr ⟨d, hd, q⟩
end
/-- x == y, tuples of one content -/
def dEqTup (L : Addr → List D → Prop) (k n : Nat) : DR2 := fun x y m R => ∃ xs, x = .tup xs ∧ y = .tup xs ∧ clDs 0 xs = true ∧ OkEs L k n xs ∧ R (.bl true) m
theorem od_eqTup {L : Addr → List D → Prop} {k n : Nat} (hL : LOk X L k) {j : Nat} (hr : Room j X.A) (hk : n + 1 ≤ j := by decide) : OpD X (compareOp .Eq) (dEqTup L k n) := by
  intro pins s σ H x y v u Q I rx ry ⟨F, G, E, m, dx, dy, R, rl, px, py, ⟨xs, e1, e2, hc, ho, h⟩, kk⟩
  subst e1 e2
  have qx := px.cut (L := 0) rl.sub hc
  have qy := py.cut (L := 0) rl.sub hc
  exact op_eqG (rcG_tup mon_mem (eqGs_same hL ho)) (hr.mono hk) pins s σ H x y v u Q I rx ry ⟨same_tup ⟨qx, qy⟩, fun H' e => kk (.bl true) m F E H' _ FSub.refl ESub.refl (rl.ext e) (.bl true) h⟩
end
end DL
set_option Elab.async false
set_option linter.all false
set_option maxRecDepth 100000
set_option maxHeartbeats 4000000
/-! D6g: isinstance; len, str, bool, [] of the text's own instances. -/
namespace DL
open PySem PySem.Spec PyProof.Rows L2 SlX

/-! ### isinstance with built-in types -/
def tyN (m : Mu) : D → Option String
  | .non => some "NoneType"
  | .bl _ => some "bool"
  | .int _ => some "int"
  | .str _ => some "str"
  | .tup _ => some "tuple"
  | .lst _ => some "list"
  | .fls _ => some "list"
  | .dic _ => some "dict"
  | .ref n => match m[n]? with
    | some (.lst _) => some "list"
    | some (.dic _) => some "dict"
    | _ => none
  | _ => none
theorem tyx_of {K : PySem.W.Frag} {F G H : Hp} {E : Eta} {m : Mu} {d : D} {v : V} {T : String} (rl : Rl K F G H E m) (p : Rp K F E d v) (h : tyN m d = some T) : TyX K H v (.type T) := by
  have tl : ∀ {a : Addr} {xs : List V}, SqL K H a xs → TyX K H (.ref a) (.type "list") := fun q => by
    rcases q with (q | ⟨o, q⟩) | ⟨o, its, n, q, c, _⟩
    · exact .base (.lst q)
    · exact .base (.frz q)
    · exact .kList q c
  have tt : ∀ {a : Addr} {xs : List V}, SqT K H a xs → TyX K H (.ref a) (.type "tuple") := fun q => by
    rcases q with (q | ⟨o, q⟩) | ⟨o, its, n, q, c, _⟩
    · exact .base (.tup q)
    · exact .fTuple q
    · exact .kTuple q c
  have td : ∀ {a : Addr} {xs : List (Key × V)}, Rd H a (.dK xs) → TyX K H (.ref a) (.type "dict") := fun q => by
    rcases q with q | ⟨o, q⟩
    · exact .base (.dK q)
    · exact .fDict q
  cases d with
  | non => cases p; cases h; exact .base .non
  | bl b => cases p; cases h; exact .base (.bl b)
  | int i => cases p; cases h; exact .base (.int i)
  | str x => cases p; cases h; exact .base (.str x)
  | tup xs => cases h; cases p with | tup q r => exact tt (rl.sub.sqT q)
  | lst xs => cases h; cases p with | lst q r => exact tl (SqL.of (rl.sub _ _ q))
  | fls xs => cases h; cases p with | fls q r => exact tl (rl.sub.sqL q)
  | dic xs => cases h; cases p with | dic q r => exact td (rl.sub.rd q)
  | ref n =>
    have h' : (match m[n]? with | some (MO.lst _) => some "list" | some (MO.dic _) => some "dict" | _ => none) = some T := h
    cases e : m[n]? with
    | none => rw [e] at h'; cases h'
    | some mo =>
      rw [e] at h'
      cases mo with
      | lst xs => cases h'; obtain ⟨q, _, rfl, vs, a, _⟩ := rl.ref_at p e; exact tl (SqL.of a)
      | dic xs => cases h'; obtain ⟨q, _, rfl, vs, a, _⟩ := rl.ref_at p e; exact td (.inl a)
      | _ => cases h'
  | _ => cases h
def isiB (U : String) (m : Mu) (d : D) : Option Bool := (tyN m d).map fun T => T == U || (T == "bool" && U == "int")
theorem isi_kit {U : String} (hU : U ∈ ["int", "bool", "str", "tuple", "list", "dict"]) {m : Mu} {d : D} {b : Bool} (h : isiB U m d = some b) : ∃ T, tyN m d = some T ∧ kitB T U = some b := by
  obtain ⟨T, hT, rfl⟩ := Option.map_eq_some_iff.mp h
  refine ⟨T, hT, ?_⟩
  have key : ∀ T ∈ ["NoneType", "bool", "int", "str", "tuple", "list", "dict"], ∀ U ∈ ["int", "bool", "str", "tuple", "list", "dict"], kitB T U = some (T == U || (T == "bool" && U == "int")) := by decide +kernel
  refine key T ?_ U hU
  cases d <;> simp only [tyN] at hT <;> first
    | (injection hT with hT; subst hT; decide)
    | cases hT
    | (split at hT <;> first | (injection hT with hT; subst hT; decide) | cases hT)
section
variable {X : Cx}
def dIsi (U : String) : DRs := fun ds m R => ∃ d b, ds = [d, .ty U] ∧ isiB U m d = some b ∧ R (.bl b) m
theorem cd_isi {U : String} (hU : U ∈ ["int", "bool", "str", "tuple", "list", "dict"] := by decide) : CallD X (.builtin "isinstance") (dIsi U) := cd_of call_isi fun vs H Q F G E m ds R rl rs ⟨d, b, e, h1, h2⟩ c => by
  subst e
  obtain ⟨v, w, rfl, rp, rq⟩ := rps2 rs
  cases rq
  obtain ⟨T, hT, hk⟩ := isi_kit hU h1
  exact ⟨v, .ty U, .type T, .type U, b, rfl, .ty U, tyx_of rl rp hT, kit_ty hk, c.val rl (.bl _) h2⟩

/-! ### isinstance with own classes -/
/-- what isinstance(x, C) asks of the text: x of the class C' (slotted), the answer b -/
structure IsiK (K : PySem.W.Frag) (C' C : Addr) (b : Bool) : Prop where
  cls : SCls K C'
  isi : SIsi K C'
  kit : PySem.W.kitOne K (.ref C') (.ref C) = some b
/-- of a class whose instances have a dict -/
structure IsiI (K : PySem.W.Frag) (C' C : Addr) (b : Bool) : Prop where
  cls : Cls K C'
  isi : SIsi K C'
  kit : PySem.W.kitOne K (.ref C') (.ref C) = some b
def dIsiO (C' C : Addr) (b : Bool) : DRs := fun ds m R => ∃ d, ds = [d, .ad C] ∧ isObjS C' m d ∧ R (.bl b) m
theorem cd_isiO {C' C : Addr} {b : Bool} (q : IsiK X.K C' C b) : CallD X (.builtin "isinstance") (dIsiO C' C b) := cd_of (call_isiSl (.ref C)) fun vs H Q F G E m ds R rl rs ⟨d, e, h1, h2⟩ c => by
  subst e
  obtain ⟨v, w, rfl, rp, rq⟩ := rps2 rs
  cases rq
  obtain ⟨a, dx, ws, rfl, sl⟩ := rl.objS rp h1
  exact ⟨a, C', dx, ws, .ref C, b, rfl, rfl, fun w r => r, sl, q.cls, q.isi, q.kit, c.val rl (.bl _) h2⟩
def dIsiI (C' C : Addr) (b : Bool) : DRs := fun ds m R => ∃ n fs, ds = [.ref n, .ad C] ∧ m[n]? = some (.ins C' fs) ∧ R (.bl b) m
theorem cd_isiI {C' C : Addr} {b : Bool} (q : IsiI X.K C' C b) : CallD X (.builtin "isinstance") (dIsiI C' C b) := cd_of call_isi fun vs H Q F G E m ds R rl rs ⟨n, fs, e, h1, h2⟩ c => by
  subst e
  obtain ⟨v, w, rfl, rp, rq⟩ := rps2 rs
  cases rq
  obtain ⟨p, _, rfl, dx, ws, a, _⟩ := rl.ref_at rp h1
  exact ⟨.ref p.1, .ref C, .ref C', .ref C, b, rfl, .own C, .base (.ins a q.cls q.isi.ca q.isi.cn q.isi.ct q.isi.cm), q.kit, c.val rl (.bl _) h2⟩
/-- isinstance(x, C), x no instance of the text -/
structure IsiN (K : PySem.W.Frag) (C : Addr) : Prop where
  no : ∀ T ∈ ["NoneType", "bool", "int", "str", "tuple", "list", "dict"], PySem.W.kitOne K (.type T) (.ref C) = some false
theorem tyN_mem {m : Mu} {d : D} {T : String} (hT : tyN m d = some T) : T ∈ ["NoneType", "bool", "int", "str", "tuple", "list", "dict"] := by
  cases d <;> simp only [tyN] at hT <;> first
    | (injection hT with hT; subst hT; decide)
    | cases hT
    | (split at hT <;> first | (injection hT with hT; subst hT; decide) | cases hT)
def dIsiN (C : Addr) : DRs := fun ds m R => ∃ d T, ds = [d, .ad C] ∧ tyN m d = some T ∧ R (.bl false) m
theorem cd_isiN {C : Addr} (q : IsiN X.K C) : CallD X (.builtin "isinstance") (dIsiN C) := cd_of call_isi fun vs H Q F G E m ds R rl rs ⟨d, T, e, h1, h2⟩ c => by
  subst e
  obtain ⟨v, w, rfl, rp, rq⟩ := rps2 rs
  cases rq
  exact ⟨v, .ref C, .type T, .ref C, false, rfl, .own C, tyx_of rl rp h1, q.no T (tyN_mem h1), c.val rl (.bl _) h2⟩

/-! ### len, str, bool, [] of own instances -/
variable {C g : Addr} {n : Nat} {spec : DRs}
structure SpK (K : PySem.W.Frag) (C : Addr) (nm : Str) (g : Addr) : Prop where
  at_ : PySem.W.findIn K (.ref C) nm = some (some (.ref g))
  fn : PySem.W.isFn K (.ref g) = true
def dLenOwn (C : Addr) (spec : DRs) : DRs := fun ds m R => ∃ d, ds = [d] ∧ instD C m d ∧ spec [d] m fun z m2 => ∃ i : Int, z = .int i ∧ 0 ≤ i ∧ i < 2 ^ 63 ∧ R (.int i) m2
theorem cd_lenOwn (q : SpK X.K C "__len__" g) (Fn : FnD X.prog X.w X.K X.mg X.base n g spec) {j : Nat} (hr : Room j X.A) (hk : n + 1 ≤ j := by decide) : CallD X (.builtin "len") (dLenOwn C spec) := by
  intro pins s σ H xs us Q I r ⟨F, G, E, m, ds, R, rl, rs, ⟨d, e, h1, h2⟩, c⟩
  subst e
  obtain ⟨v, rfl, rp⟩ := rps1 rs
  obtain ⟨a, rfl, ia⟩ := rl.inst rp h1
  obtain ⟨u, rfl, ru⟩ := r.one
  cases (show u = Value.ref a from ru)
  obtain ⟨ox, od, J⟩ := ia.at_ I
  obtain ⟨mm, hF⟩ := I.fr
  refine PySem.W.len_K hF I.ok.mod.kin J q.at_ q.fn ?_
  refine wpAny_mono (wpAny_call (run_at (E := E0) (us := [.ref a]) (ws := [.ref a]) (Q := fun z H1 => ∃ i : Int, z = .int i ∧ 0 ≤ i ∧ i < 2 ^ 63 ∧ Q (.int i) H1) Fn (hr.mono hk).in1 I.env0.in1 pass0 I (.cons rfl .nil) ⟨F, G, E, m, [d], _, rl, rs, h2, fun z m2 F2 E2 H2 v2 f2 e2 rl2 rp2 ⟨i, ei, hi, hj, h3⟩ => ?_⟩)) (fun w s' z => ?_) fun _ _ x => x
  · subst ei
    cases rp2
    exact ⟨i, rfl, hi, hj, c (.int i) m2 F2 E2 H2 _ f2 e2 rl2 (.int i) h3⟩
  · obtain ⟨z', H', I', rz, i, ei, hi, hj, qz⟩ := z
    subst ei
    obtain ⟨t, rfl⟩ := rz
    exact ⟨⟨hi, hj⟩, .int i, H', I'.tok _, ⟨_, rfl⟩, qz⟩
def dStrOwn (C : Addr) (spec : DRs) : DRs := fun ds m R => ∃ d, ds = [d] ∧ instD C m d ∧ spec [d] m fun z m2 => ∃ x : Str, z = .str x ∧ R (.str x) m2
theorem cd_strOwn (q : SpK X.K C "__str__" g) (Fn : FnD X.prog X.w X.K X.mg X.base n g spec) {j : Nat} (hr : Room j X.A) (hk : n + 2 ≤ j := by decide) : CallD X (.type "str") (dStrOwn C spec) := by
  intro pins s σ H xs us Q I r ⟨F, G, E, m, ds, R, rl, rs, ⟨d, e, h1, h2⟩, c⟩
  subst e
  obtain ⟨v, rfl, rp⟩ := rps1 rs
  obtain ⟨a, rfl, ia⟩ := rl.inst rp h1
  obtain ⟨u, rfl, ru⟩ := r.one
  cases (show u = Value.ref a from ru)
  obtain ⟨ox, od, J⟩ := ia.at_ I
  have hr2 : Room n X.A.in1.in1 := (show Room (n + 1) X.A.in1 from Room.in1 (hr.mono hk)).in1
  refine PySem.W.kso_call hr2.units0 I.kIn J q.at_ q.fn ?_
  refine wpAny_mono (wpAny_call (run_at (E := E0) (us := [.ref a]) (ws := [.ref a]) (Q := fun z H1 => ∃ x : Str, z = .str x ∧ Q (.str x) H1) Fn hr2 I.env0.in1.in1 pass0 I (.cons rfl .nil) ⟨F, G, E, m, [d], _, rl, rs, h2, fun z m2 F2 E2 H2 v2 f2 e2 rl2 rp2 ⟨x, ei, h3⟩ => ?_⟩)) (fun w s' z => ?_) fun _ _ x => x
  · subst ei
    cases rp2
    exact ⟨x, rfl, c (.str x) m2 F2 E2 H2 _ f2 e2 rl2 (.str x) h3⟩
  · obtain ⟨z', H', I', rz, x, ei, qz⟩ := z
    subst ei
    obtain ⟨t, rfl⟩ := rz
    exact ⟨.str x, H', I', ⟨t, rfl⟩, qz⟩
end
theorem bool_own {prog : Program} {w : World} {A : Around} {E : Value → Shared → Prop} {s : Shared} {K : PySem.W.Frag} {x C f L : Addr} {h₀ : Heap} {m : Str → Option Value} {ox : Obj} {od : Option Obj} {Q : Value → Shared → Prop}
    (Fm : PyProof.Rows.Fr h₀ L s.heap m) (X₀ : K.In h₀) (I : PySem.W.InstAt s.heap x ox C od) (hs : PySem.W.findIn K (.ref C) "__bool__" = some (some (.ref f))) (hf : PySem.W.isFn K (.ref f) = true)
    (h : wpAny (model prog w) A.in1.in1 (call (.ref f) [.ref x]) (PySem.W.BoolBack fun b => Q (.bool b)) E s) : wpAny (model prog w) A (call (.type "bool") [.ref x]) Q E s := by
  refine callType_codes (T := "bool") (Bi := Builtin.«object.__init__») (Q₁ := fun r s₁ => ∃ b, r = .bool b ∧ Q r s₁) F.called_bool (F.typeCall_bool_1 _) F.entry_object_init ?_ ?_
  · refine codeAny_of_tree ?_
    show wpAny _ A.in1.in1 (do checkBuiltinCall "bool.__new__" ⟨[.type "bool", .ref x], []⟩; again (.builtin "bool.__new__" ⟨[.type "bool", .ref x], []⟩)) _ _ s
    refine wpAny_bind (wpAny_of_eq (F.newCall_bool_1 _) (wpAny_pure ⟨plainId_quiet (by decide +kernel) _, codeAny_builtin F.entry_bool_new ?_⟩))
    rw [Around.under_plainId (by decide +kernel) _]
    unfold Builtin.«bool.__new__»
    have f1 := F.conv_sub_bool
    have ht : ∀ Q' : Bool → Shared → Prop, wpAny (model prog w) A.in1.in1 (call (.ref f) [.ref x]) (PySem.W.BoolBack Q') E s → wpAny (model prog w) A.in1.in1 (truthy (.ref x)) Q' E s := fun Q' => PySem.W.truthy_K Fm X₀ I hs hf
    have tb : isType (.type "bool") = pure true := by first | rfl | kernel_rfl | (unfold isType; rw [isSubtype_type]; kernel_rfl)
    have go := ht (fun b => Q (.bool b)) h
    repeat (any_goals (first | assumption | (refine wpAny_bind (wpAny_mono go (fun b s1 hb => ?_) fun _ _ e => e)) | wp_step))
    all_goals first | exact ⟨_, rfl, hb⟩ | skip
  · rintro obj s₁ ⟨b, rfl, hq⟩
    exact ⟨PySem.typeIs_bool _ _, F.args_object_init_2 _ _, object_init_meets F.called_bool.init.lookup F.called_bool.made (by decide) prog w A.in1 _ s₁ ⟨PySem.typeIs_bool _ _, rfl, hq⟩⟩
section
variable {X : Cx} {C g : Addr} {n j : Nat} {spec : DRs}
def dBoolOwn (C : Addr) (spec : DRs) : DRs := fun ds m R => ∃ d, ds = [d] ∧ instD C m d ∧ spec [d] m fun z m2 => ∃ b : Bool, z = .bl b ∧ R (.bl b) m2
theorem cd_boolOwn (q : SpK X.K C "__bool__" g) (Fn : FnD X.prog X.w X.K X.mg X.base n g spec) (hr : Room j X.A) (hk : n + 2 ≤ j := by decide) : CallD X (.type "bool") (dBoolOwn C spec) := by
  intro pins s σ H xs us Q I r ⟨F, G, E, m, ds, R, rl, rs, ⟨d, e, h1, h2⟩, c⟩
  subst e
  obtain ⟨v, rfl, rp⟩ := rps1 rs
  obtain ⟨a, rfl, ia⟩ := rl.inst rp h1
  obtain ⟨u, rfl, ru⟩ := r.one
  cases (show u = Value.ref a from ru)
  obtain ⟨ox, od, J⟩ := ia.at_ I
  obtain ⟨mm, hF⟩ := I.fr
  have hr2 : Room n X.A.in1.in1 := (show Room (n + 1) X.A.in1 from Room.in1 (hr.mono hk)).in1
  refine bool_own hF I.ok.mod.kin J q.at_ q.fn ?_
  refine wpAny_mono (wpAny_call (run_at (E := E0) (us := [.ref a]) (ws := [.ref a]) (Q := fun z H1 => ∃ b : Bool, z = .bl b ∧ Q (.bl b) H1) Fn hr2 I.env0.in1.in1 pass0 I (.cons rfl .nil) ⟨F, G, E, m, [d], _, rl, rs, h2, fun z m2 F2 E2 H2 v2 f2 e2 rl2 rp2 ⟨x, ei, h3⟩ => ?_⟩)) (fun w s' z => ?_) fun _ _ x => x
  · subst ei
    cases rp2
    exact ⟨x, rfl, c (.bl x) m2 F2 E2 H2 _ f2 e2 rl2 (.bl x) h3⟩
  · obtain ⟨z', H', I', rz, x, ei, qz⟩ := z
    subst ei
    cases rz
    exact ⟨.bl x, H', I', rfl, qz⟩
/-- x[i], x an own instance -/
def dOwnIx (C : Addr) (spec : DRs) (ta tb : TDE) : TDE := fun δ m R => ta δ m fun x m1 => tb δ m1 fun y m2 => instD C m2 x ∧ spec [x, y] m2 R
theorem de_ownIx {a b : Expr} {ta tb : TDE} {pos : Pos} (q : SpK X.K C "__getitem__" g) (hfn : PySem.W.fnIn X.K g = true) (Fn : FnD X.prog X.w X.K X.mg X.base n g spec) (hr : Room j X.A) (ha : DE X a ta) (hb : DE X b tb) (hk : n + 1 ≤ j := by decide)
    (hsl : ∀ x i, subscripted b true (.ref x) i = runValue (.builtin "lifetime.subscript" ⟨[.ref x, i], []⟩) := by intro _ _; rfl) : DE X (.Subscript a b pos) (dOwnIx C spec ta tb) := by
  refine ⟨⟨fun pins s σ H Q I ⟨F, G, E, m, δ, R, rl, rs, h, k⟩ => ?_⟩⟩
  refine Subscript_ (thn (ha.pe.run pins s σ H _ I ⟨F, G, E, m, δ, _, rl, rs, h, fun x m1 F1 E1 H1 v f1 e1 rl1 rp1 h1 => (⟨F1, E1, x, m1, f1, e1, rl1, rp1, h1⟩ : (fun (v : V) (H1 : Hp) => ∃ F1 E1 x m1, FSub F F1 ∧ ESub E E1 ∧ Rl X.K F1 G H1 E1 m1 ∧ Rp X.K F1 E1 x v ∧ tb δ m1 fun y m2 => instD C m2 x ∧ spec [x, y] m2 R) v H1)⟩) fun u s1 ⟨vx, H1, I1, rx, F1, E1, x, m1, f1, e1, rl1, rp1, h1⟩ => ?_)
  refine thn (hb.pe.run pins s1 σ H1 _ I1 ⟨F1, G, E1, m1, δ, _, rl1, rs.mono f1 e1, h1, fun y m2 F2 E2 H2 v f2 e2 rl2 rp2 h2 => (⟨F2, E2, y, m2, f2, e2, rl2, rp2, h2⟩ : (fun (v : V) (H2 : Hp) => ∃ F2 E2 y m2, FSub F1 F2 ∧ ESub E1 E2 ∧ Rl X.K F2 G H2 E2 m2 ∧ Rp X.K F2 E2 y v ∧ (instD C m2 x ∧ spec [x, y] m2 R)) v H2)⟩) fun w s2 ⟨vy, H2, I2, ry, F2, E2, y, m2, f2, e2, rl2, rp2, hi, h2⟩ => ?_
  obtain ⟨p, rfl, ia⟩ := rl2.inst (rp1.mono f2 e2) hi
  cases (show u = Value.ref p from rx)
  obtain ⟨ox, od, J⟩ := ia.at_ I2
  obtain ⟨mm, hF⟩ := I2.fr
  refine PySem.W.sub_K hF I2.ok.mod.kin J q.at_ hfn q.fn ?_ (hsl _ _)
  exact wpAny_call (run_at (E := E0) (us := [.ref p, w]) (ws := [.ref p, vy]) Fn (hr.mono hk).in1 I2.env0.in1 pass0 I2 (.cons rfl (.cons ry .nil)) ⟨F2, G, E2, m2, [x, y], R, rl2, .cons (rp1.mono f2 e2) (.cons rp2 .nil), h2, (k.on f1 e1).on f2 e2⟩)
end
end DL
set_option Elab.async false
set_option linter.all false
set_option maxRecDepth 100000
set_option maxHeartbeats 4000000
/-! D6h: texts, f-strings, x or y, properties, len of a dict. -/
namespace DL
open PySem PySem.Spec PyProof.Rows L2 SlX

section
variable {X : Cx} {pos : Pos}
/-! ### texts -/
def dSplit : DMt := fun x ds m R => ∃ a b, x = .str a ∧ ds = [.str b] ∧ (b.length == 0) = false ∧ a.length + 2 ≤ sizeLine ∧ R (.lst ((Txt.split a b).map .str)) m
theorem rps_strs {K : PySem.W.Frag} {F : Hp} {E : Eta} : ∀ ys : List Str, Rps K F E (ys.map D.str) (ys.map V.str)
  | [] => .nil
  | y :: ys => .cons (.str y) (rps_strs ys)
theorem strs_rps {K : PySem.W.Frag} {F : Hp} {E : Eta} : ∀ {ys : List Str} {vs : List V}, Rps K F E (ys.map D.str) vs → vs = ys.map V.str
  | [], _, .nil => rfl
  | y :: ys, _, .cons r t => by
    cases r
    rw [strs_rps t]
    rfl
theorem md_split : MtD X "str.split" dSplit := MtR.imp mt_split fun x vs H Q ⟨F, G, E, m, dx, ds, R, rl, rx, rs, ⟨a, b, e1, e2, h1, h2, h⟩, k⟩ => by
  subst e1 e2
  obtain ⟨v, rfl, rp⟩ := rps1 rs
  cases rx
  cases rp
  exact ⟨a, b, rfl, rfl, h1, h2, fun p hp => k.lst rl (rps_strs _) h hp⟩
def dJoin : DMt := fun x ds m R => ∃ (a : Str) (d : D) (ys : List Str), x = .str a ∧ ds = [d] ∧ seqOf d m = some (ys.map .str) ∧ (ys.map (·.length)).sum + ys.length * a.length ≤ 16777216 ∧ R (.str (Txt.join a ys)) m
theorem md_join : MtD X "str.join" dJoin := MtR.imp mt_join fun x vs H Q ⟨F, G, E, m, dx, ds, R, rl, rx, rs, ⟨a, d, ys, e1, e2, h1, h2, h⟩, k⟩ => by
  subst e1 e2
  obtain ⟨v, rfl, rp⟩ := rps1 rs
  cases rx
  obtain ⟨p, ws, rfl, sq, rv⟩ := rl.seq_ok rp h1
  have e := strs_rps rv
  subst e
  exact ⟨a, p, ys, rfl, rfl, sq, h2, k.val rl (.str _) h⟩
def dIntS : DRs := fun ds m R => ∃ a n, ds = [.str a] ∧ PySem.intText? a = some n ∧ a.length ≤ 640 ∧ R (.int n) m
theorem cd_intS : CallD X (.type "int") dIntS := cd_of call_int_str fun vs H Q F G E m ds R rl rs ⟨a, n, e, h1, h2, h⟩ c => by
  subst e
  obtain ⟨v, rfl, rp⟩ := rps1 rs
  cases rp
  exact ⟨a, n, rfl, h1, h2, c.val rl (.int _) h⟩

/-! ### f-strings -/
def dFmt (te : TDE) : TDE := fun δ m R => te δ m fun x m1 => (∃ y : Str, x = .str y ∧ y.length ≤ sizeLine ∧ R (.str y) m1) ∨ ∃ i : Int, x = .int i ∧ i.natAbs.log2 < 1920 ∧ R (.str (toString i)) m1
theorem de_fmt {e : Expr} {te : TDE} (he : DE X e te) : DE X (.FormattedValue e (-1) none pos) (dFmt te) :=
  ⟨PE.imp (pe_fmt he.pe) fun σ H Q ⟨F, G, E, m, δ, R, rl, rs, h, k⟩ => ⟨F, G, E, m, δ, _, rl, rs, h, fun x m1 F1 E1 H1 v f1 e1 rl1 rp1 h1 => by
    rcases h1 with ⟨y, ex, hz, h2⟩ | ⟨i, ex, hz, h2⟩
    · subst ex; cases rp1; exact .inl ⟨y, rfl, hz, (k.on f1 e1).val rl1 (.str _) h2⟩
    · subst ex; cases rp1; exact .inr ⟨i, rfl, hz, (k.on f1 e1).val rl1 (.str _) h2⟩⟩⟩
/-- the parts -/
inductive DJ (X : Cx) : List Expr → List TDE → Prop where
  | nil : DJ X [] []
  | cons {e : Expr} {t : TDE} {es : List Expr} {ts : List TDE} (h : DE X e t) (r : DJ X es ts) : DJ X (e :: es) (t :: ts)
def dJs : List TDE → Str → DS → Mu → (Str → Mu → Prop) → Prop
  | [], acc, _, m, R => R acc m
  | t :: ts, acc, δ, m, R => t δ m fun x m1 => ∃ y : Str, x = .str y ∧ (acc ++ y).length ≤ sizeLine ∧ dJs ts (acc ++ y) δ m1 R
def dJoined (ts : List TDE) : TDE := fun δ m R => dJs ts Str.empty δ m fun out m1 => R (.str out) m1
theorem DJ.pj {es : List Expr} {ts : List TDE} (h : DJ X es ts) : PJ X es (ts.map (liftE X.K)) := by
  induction h with
  | nil => exact .nil
  | cons h r ih => exact .cons h.pe ih
theorem js_lift {K : PySem.W.Frag} {G : Hp} : ∀ {ts : List TDE} {acc : Str} {δ : DS} {m : Mu} {R : Str → Mu → Prop} {F H : Hp} {E : Eta} {σ : L2.St} {Q : Str → Hp → Prop}, Rl K F G H E m → RpS K F E δ σ → dJs ts acc δ m R →
    (∀ out m' F' E' H', FSub F F' → ESub E E' → Rl K F' G H' E' m' → R out m' → Q out H') → tJs (ts.map (liftE K)) acc σ H Q
  | [], _, _, _, _, _, _, _, _, _, rl, rs, h, k => k _ _ _ _ _ FSub.refl ESub.refl rl h
  | t :: ts, acc, δ, m, R, F, H, E, σ, Q, rl, rs, h, k => ⟨F, G, E, m, δ, _, rl, rs, h, fun x m1 F1 E1 H1 v f1 e1 rl1 rp1 ⟨y, ex, hz, h1⟩ => by
    subst ex
    cases rp1
    exact ⟨y, rfl, hz, js_lift rl1 (rs.mono f1 e1) h1 fun out m' F' E' H' f e rl' h' => k out m' F' E' H' (f1.trans f) (e1.trans e) rl' h'⟩⟩
theorem de_joined {v1 v2 : Expr} {rest : List Expr} {ts : List TDE} (h : DJ X (v1 :: v2 :: rest) ts) : DE X (.JoinedStr (v1 :: v2 :: rest) pos) (dJoined ts) :=
  ⟨PE.imp (pe_joined h.pj) fun σ H Q ⟨F, G, E, m, δ, R, rl, rs, h, k⟩ => js_lift rl rs h fun out m' F' E' H' f e rl' h' => (k.on f e).val rl' (.str _) h'⟩

/-! ### x or y, by truth -/
theorem truV_of {K : PySem.W.Frag} {F G H : Hp} {E : Eta} {m : Mu} {d : D} {v : V} {b : Bool} (rl : Rl K F G H E m) (rp : Rp K F E d v) (h1 : truD m d = some b) : TruV K v H b := by
  have sq : (seqOf d m).map (fun xs => !xs.isEmpty) = some b → TruV K v H b := fun z => by
    obtain ⟨xs, hx, rfl⟩ := Option.map_eq_some_iff.mp z
    obtain ⟨a, vs, rfl, q, rv⟩ := rl.seq_ok rp hx
    rw [isEmpty_rps rv]
    rcases q with q | q
    · exact .inl ⟨vs, q, rfl⟩
    · exact .inr (.inl ⟨vs, q, rfl⟩)
  cases d with
  | non => cases rp; cases h1; rfl
  | bl b' => cases rp; cases h1; rfl
  | int i => cases rp; cases h1; rfl
  | str x =>
    cases rp
    have h1' : (if x.length ≤ sizeLine then some ((x.length : Int) != 0) else none) = some b := h1
    by_cases hz : x.length ≤ sizeLine
    · rw [if_pos hz] at h1'
      exact ⟨hz, (Option.some.inj h1').symm⟩
    · rw [if_neg hz] at h1'; cases h1'
  | _ => exact sq h1
def dOrT (ta tb : TDE) : TDE := fun δ m R => ta δ m fun x m1 => ∃ k, truD m1 x = some k ∧ if k = true then R x m1 else tb δ m1 R
theorem de_orT {a b : Expr} {rest : List Expr} {ta tb : TDE} (ha : DE X a ta) (hb : DE X (.BoolOp .Or (b :: rest) pos) tb) : DE X (.BoolOp .Or (a :: b :: rest) pos) (dOrT ta tb) :=
  ⟨PE.imp (pe_orT ha.pe hb.pe) fun σ H Q ⟨F, G, E, m, δ, R, rl, rs, h, k⟩ => ⟨F, G, E, m, δ, _, rl, rs, h, fun x m1 F1 E1 H1 v f1 e1 rl1 rp1 ⟨c, hc, h1⟩ => by
    refine ⟨c, truV_of rl1 rp1 hc, ?_⟩
    cases c with
    | true => exact (k.on f1 e1).val rl1 rp1 h1
    | false => exact ⟨F1, G, E1, m1, δ, R, rl1, rs.mono f1 e1, h1, k.on f1 e1⟩⟩⟩

/-! ### len of a dict -/
theorem cr_lenDic : CallR X (.builtin "len") (fun vs H Q => ∃ a kvs, vs = [.ref a] ∧ Rd H a (.dK kvs) ∧ Q (.int kvs.length) H) := fun pins s σ H xs us Q I rs ⟨a, kvs, e, hd, h⟩ => by
  subst e
  cases rs with
  | cons r t =>
    cases t
    obtain rfl := (r : _ = Value.ref a)
    exact d_len I hd fun t s' I' => ⟨.int kvs.length, H, I', ⟨_, rfl⟩, h⟩
def dLenDic : DRs := fun ds m R => ∃ d kvs, ds = [d] ∧ dicOf d m = some kvs ∧ R (.int kvs.length) m
theorem cd_lenDic : CallD X (.builtin "len") dLenDic := cd_of cr_lenDic fun vs H Q F G E m ds R rl rs ⟨d, kvs, e, h1, h⟩ c => by
  subst e
  obtain ⟨v, rfl, rp⟩ := rps1 rs
  obtain ⟨a, ws, rfl, q, rv⟩ := rl.dic_ok rp h1
  exact ⟨a, ws, rfl, q, by rw [← rv.length]; exact c.val rl (.int _) h⟩

/-! ### properties -/
structure PrK (K : PySem.W.Frag) (C : Addr) (f : Str) (g : Addr) : Prop where
  pg : PySem.W.plainGet K C f = true
  ic : PySem.W.isClsIn K C = true
  pr : ∃ p, PropOf K C f p g
variable {C g : Addr} {n j : Nat} {spec : DRs} {f : Str} {e : Expr} {ta : TDE}
def dProp (C : Addr) (spec : DRs) (ta : TDE) : TDE := fun δ m R => ta δ m fun x m1 => instD C m1 x ∧ spec [x] m1 R
theorem de_prop (q : PrK X.K C f g) (Fn : FnD X.prog X.w X.K X.mg X.base n g spec) (hr : Room j X.A) (he : DE X e ta) (hk : n + 1 ≤ j := by decide) (hb : attributeBase e f X.env (eval e X.env) = eval e X.env := by rfl) : DE X (.Attribute e f pos) (dProp C spec ta) := by
  refine ⟨⟨fun pins s σ H Q I ⟨F, G, E, m, δ, R, rl, rs, h, k⟩ => ?_⟩⟩
  refine attr_of hb (thn (he.pe.run pins s σ H _ I ⟨F, G, E, m, δ, _, rl, rs, h, fun x m1 F1 E1 H1 v f1 e1 rl1 rp1 h1 => (⟨F1, E1, x, m1, f1, e1, rl1, rp1, h1⟩ : (fun (v : V) (H1 : Hp) => ∃ F1 E1 x m1, FSub F F1 ∧ ESub E E1 ∧ Rl X.K F1 G H1 E1 m1 ∧ Rp X.K F1 E1 x v ∧ (instD C m1 x ∧ spec [x] m1 R)) v H1)⟩) fun w s1 ⟨vx, H1, I1, rx, F1, E1, x, m1, f1, e1, rl1, rp1, hi, h1⟩ => ?_)
  obtain ⟨a, rfl, ia⟩ := rl1.inst rp1 hi
  obtain rfl : w = Value.ref a := rx
  obtain ⟨ox, od, J⟩ := ia.at_ I1
  obtain ⟨p, hp⟩ := q.pr
  obtain ⟨rest, hrec⟩ := hp.rec_
  have I2 : Inv X pins σ H1 { s1 with toks := s1.toks + 1 } := I1.tok (s1.toks + 1)
  refine PySem.W.get_bind I1.kIn J (PySem.W.plainGet_of q.pg).1 (PySem.W.findObj_data q.ic hp.at_ hp.get hp.tak) (PySem.W.plainGet_of q.pg).2 (wpAny_call (PySem.W.prop_get (s := { s1 with toks := s1.toks + 1 }) I1.kIn hrec ?_))
  refine codeAny_mono (Fn X.A.in1 X.stack { s1 with toks := s1.toks + 1 } H1 [.ref a] [.ref a] Q E0 (hr.mono hk).in1 I2.env0.in1 (.cons rfl .nil) ⟨F1, G, E1, m1, [x], R, rl1, .cons rp1 .nil, h1, k.on f1 e1⟩) fun r s' hq => ?_
  cases r with
  | error er => exact False.elim hq
  | ok fl =>
    cases fl with
    | ret u =>
      obtain ⟨v, H', I3, rv, q3⟩ := I2.after hq
      exact wpAny_of_eq (PySem.W.handedOut_of (handed_of rv)) ⟨v, H', I3, rv, q3⟩
    | next => exact False.elim hq
    | brk => exact False.elim hq
    | cont => exact False.elim hq
end
end DL
set_option Elab.async false
set_option linter.all false
set_option maxRecDepth 100000
set_option maxHeartbeats 4000000
/-! D6i: comprehensions with two fors. -/
namespace DL
open PySem PySem.Spec PyProof.Rows L2 SlX

def lcL2 (g : TDG) (tt : TDT) (ti1 : TDI) (g1 : TDG) (tt1 : TDT) (te : TDE) (δ : DS) (vs1 : List Nat) (P : Mu → Prop) (Rd : List D → Mu → Prop) : List D → List D → Mu → Prop
  | [], acc, m => P m ∧ Rd acc m
  | x :: xs, acc, m => P m ∧ g x δ m fun δ2 m2 => tt δ2 m2 fun b m3 => if b = true then ti1 δ2 m3 fun ys P1 m4 => lcL g1 tt1 te (dwipe δ2 vs1) P1 (fun acc' m5 => lcL2 g tt ti1 g1 tt1 te δ vs1 P Rd xs acc' m5) ys acc m4
      else lcL2 g tt ti1 g1 tt1 te δ vs1 P Rd xs acc m3
def dLc2 (ti : TDI) (g : TDG) (tt : TDT) (ti1 : TDI) (g1 : TDG) (tt1 : TDT) (te : TDE) (vs vs1 : List Nat) : TDE := fun δ m R => ti δ m fun xs P m1 => lcL2 g tt ti1 g1 tt1 te (dwipe δ vs) vs1 P (fun acc m2 => R (.lst acc) m2) xs [] m1
section
variable {X : Cx} {pos : Pos}
theorem lc2_lift {ti ti1 : TDI} {g g1 : TG} {gd gd1 : TDG} {tt tt1 : TDT} {te : TDE} {vs vs1 : List Nat} {σ : L2.St} {H : Hp} {Q : VK} {scope : Scope} {tg tg1 : Expr} (hg : DGc X scope tg vs g gd) (hg1 : DGc X scope tg1 vs1 g1 gd1)
    (h : liftE X.K (dLc2 ti gd tt ti1 gd1 tt1 te vs vs1) σ H Q) : tLc2 (liftI X.K ti) g (liftT X.K tt) (liftI X.K ti1) g1 (liftT X.K tt1) (liftE X.K te) vs vs1 σ H Q := by
  obtain ⟨F, G, E, m, δ, R, rl, rs, h, k⟩ := h
  refine ⟨F, G, E, m, δ, _, rl, rs, h, fun xs P m1 F1 E1 H1 J f1 e1 rl1 it h1 => fun D0 hD => ?_⟩
  have k1 := k.on f1 e1
  have rs1 := rs.mono f1 e1
  have gD : G D0 = none := (rl1.fresh hD).2.1
  let Wd := fun (acc : List D) (rest : List D) (H : Hp) => ∃ F2 E2 m2 ws, FSub F1 F2 ∧ ESub E1 E2 ∧ Rl X.K F2 (upd G D0 (.lst ws)) H E2 m2 ∧ Rps X.K F2 E2 acc ws ∧ lcL2 gd tt ti1 gd1 tt1 te (dwipe δ vs) vs1 P (fun acc m2 => R (.lst acc) m2) rest acc m2
  refine ⟨fun i n H => n = xs.length - i ∧ i ≤ xs.length ∧ ∃ acc, Wd acc (xs.drop i) H, ⟨xs.length, by simp, Nat.zero_le _, [], F1, E1, m1, [], FSub.refl, ESub.refl, rl1.kept hD, .nil, h1⟩, ?_⟩
  rintro i n H2 ⟨rfl, hi, acc, F2, E2, m2, ws, f2, e2, rl2, ra, h2⟩
  by_cases hlt : i < xs.length
  · rw [List.drop_eq_getElem_cons hlt] at h2
    obtain ⟨pm, h2⟩ := h2
    obtain ⟨items, _⟩ := it F2 _ H2 E2 m2 f2 e2 rl2 pm
    obtain ⟨go, yld⟩ := items i xs[i] (List.getElem?_eq_getElem hlt)
    refine .inr ⟨go, fun H => ∃ acc, Wd acc (xs.drop (i + 1)) H, fun H' h' => ⟨xs.length - (i + 1), by omega, rfl, hlt, h'⟩, fun v H3 y => ?_⟩
    obtain ⟨F3, f3, rl3, rp3⟩ := yld v H3 y
    refine hg.ok F3 _ H3 E2 m2 xs[i] v (dwipe δ vs) (L2.wipe σ vs) _ _ rl3 (((rs1.mono f2 e2).mono f3 ESub.refl).wipe vs) rp3 h2 fun σ4 δ4 rs4 w4 h4 => ?_
    refine ⟨by rw [w4, wipe_wipe (fun _ z => z)], F3, _, E2, m2, δ4, _, rl3, rs4, h4, fun b m5 F5 E5 H5 f5 e5 rl5 h5 => ?_⟩
    cases b with
    | true =>
      rw [if_pos rfl] at h5 ⊢
      refine ⟨F5, _, E5, m5, δ4, _, rl5, rs4.mono f5 e5, h5, fun ys P1 m6 F6 E6 H6 J1 f6 e6 rl6 it1 h6 => ?_⟩
      have ra6 : Rps X.K F6 E6 acc ws := ((ra.mono f3 ESub.refl).mono f5 e5).mono f6 e6
      have rs6 : RpS X.K F6 E6 δ4 σ4 := (rs4.mono f5 e5).mono f6 e6
      let W1 := fun (acc : List D) (rest : List D) (H : Hp) => ∃ F7 E7 m7 ws, FSub F6 F7 ∧ ESub E6 E7 ∧ Rl X.K F7 (upd G D0 (.lst ws)) H E7 m7 ∧ Rps X.K F7 E7 acc ws ∧
        lcL gd1 tt1 te (dwipe δ4 vs1) P1 (fun acc' m5 => lcL2 gd tt ti1 gd1 tt1 te (dwipe δ vs) vs1 P (fun acc m2 => R (.lst acc) m2) (xs.drop (i + 1)) acc' m5) rest acc m7
      refine ⟨fun j n H => n = ys.length - j ∧ j ≤ ys.length ∧ ∃ acc, W1 acc (ys.drop j) H, ⟨ys.length, by simp, Nat.zero_le _, acc, F6, E6, m6, ws, FSub.refl, ESub.refl, rl6, ra6, h6⟩, ?_⟩
      rintro j n H7 ⟨rfl, hj, acc7, F7, E7, m7, ws7, f7, e7, rl7, ra7, h7⟩
      by_cases hlt1 : j < ys.length
      · rw [List.drop_eq_getElem_cons hlt1] at h7
        obtain ⟨pm1, h7⟩ := h7
        obtain ⟨items1, _⟩ := it1 F7 _ H7 E7 m7 f7 e7 rl7 pm1
        obtain ⟨go1, yld1⟩ := items1 j ys[j] (List.getElem?_eq_getElem hlt1)
        refine .inr ⟨go1, fun H => ∃ acc, W1 acc (ys.drop (j + 1)) H, fun H' h' => ⟨ys.length - (j + 1), by omega, rfl, hlt1, h'⟩, fun v8 H8 y8 => ?_⟩
        obtain ⟨F8, f8, rl8, rp8⟩ := yld1 v8 H8 y8
        refine hg1.ok F8 _ H8 E7 m7 ys[j] v8 (dwipe δ4 vs1) (L2.wipe σ4 vs1) _ _ rl8 (((rs6.mono f7 e7).mono f8 ESub.refl).wipe vs1) rp8 h7 fun σ9 δ9 rs9 w9 h9 => ?_
        refine ⟨by rw [w9, wipe_wipe (fun _ z => z)], F8, _, E7, m7, δ9, _, rl8, rs9, h9, fun b m10 F10 E10 H10 f10 e10 rl10 h10 => ?_⟩
        cases b with
        | true =>
          rw [if_pos rfl] at h10 ⊢
          refine ⟨F10, _, E10, m10, δ9, _, rl10, rs9.mono f10 e10, h10, fun d m11 F11 E11 H11 v11 f11 e11 rl11 rp11 ⟨hz, h11⟩ => ?_⟩
          have ra11 : Rps X.K F11 E11 acc7 ws7 := ((ra7.mono f8 ESub.refl).mono f10 e10).mono f11 e11
          exact ⟨ws7, rl11.gsub D0 _ upd_same, by rw [← ra11.length]; exact hz, acc7 ++ [d], F11, E11, m11, ws7 ++ [v11], ((f7.trans f8).trans f10).trans f11, (e7.trans e10).trans e11, rl11.rekept gD, ra11.append (.cons rp11 .nil), h11⟩
        | false =>
          rw [if_neg (by decide)] at h10 ⊢
          exact ⟨acc7, F10, E10, m10, ws7, (f7.trans f8).trans f10, e7.trans e10, rl10, (ra7.mono f8 ESub.refl).mono f10 e10, h10⟩
      · have e : j = ys.length := by omega
        subst e
        rw [List.drop_length] at h7
        obtain ⟨pm1, h7⟩ := h7
        obtain ⟨_, stop1⟩ := it1 F7 _ H7 E7 m7 f7 e7 rl7 pm1
        exact .inl ⟨stop1 _ (Nat.le_refl _), acc7, F7, E7, m7, ws7, (((f2.trans f3).trans f5).trans f6).trans f7, ((e2.trans e5).trans e6).trans e7, rl7, ra7, h7⟩
    | false =>
      rw [if_neg (by decide)] at h5 ⊢
      exact ⟨acc, F5, E5, m5, ws, (f2.trans f3).trans f5, e2.trans e5, rl5, (ra.mono f3 ESub.refl).mono f5 e5, h5⟩
  · have e : i = xs.length := by omega
    subst e
    rw [List.drop_length] at h2
    obtain ⟨pm, h2⟩ := h2
    obtain ⟨_, stop⟩ := it F2 _ H2 E2 m2 f2 e2 rl2 pm
    refine .inl ⟨stop _ (Nat.le_refl _), ?_⟩
    have fD : F2 D0 = none := rl2.fg D0 _ upd_same
    exact k1 (.lst acc) m2 _ E2 H2 (.ref D0) (f2.trans (FSub.upd fD)) e2 (rl2.unkept gD) (.lst upd_same (ra.mono (FSub.upd fD) ESub.refl)) h2
theorem de_lc2 {elt tg iter tg1 iter1 : Expr} {ifs ifs1 : List Expr} {scope : Scope} {own : List (Str × Nat)} {vs1 : List Nat} {ti ti1 : TDI} {g g1 : TG} {gd gd1 : TDG} {tt tt1 : TDT} {te : TDE} (hc : X.calm = true) (hN : X.N.Nodup) (hi : DI X tg iter ti) (ok : BlkOk X.N X.env.scope scope own) (hv : ∀ i ∈ vs1, i ∈ own.map (·.2))
    (hg : DGc X scope tg (own.map (·.2)) g gd) (ht : ∀ (s : Shared) (H : Hp) (C : Addr) (cl : List (Str × Addr)) (fp : List Addr), DTs (X.blk s H scope (compEnvC scope cl C X.env) fp) ifs tt)
    (hi1 : ∀ (s : Shared) (H : Hp) (C : Addr) (cl : List (Str × Addr)) (fp : List Addr), DI (X.blk s H scope (compEnvC scope cl C X.env) fp) tg1 iter1 ti1)
    (hg1 : DGc X scope tg1 vs1 g1 gd1) (ht1 : ∀ (s : Shared) (H : Hp) (C : Addr) (cl : List (Str × Addr)) (fp : List Addr), DTs (X.blk s H scope (compEnvC scope cl C X.env) fp) ifs1 tt1)
    (he : ∀ (s : Shared) (H : Hp) (C : Addr) (cl : List (Str × Addr)) (fp : List Addr), DE (X.blk s H scope (compEnvC scope cl C X.env) fp) elt te) (hs : ∀ x, foldedSetIterable iter X.env x = pure x := by intro _; rfl) (hs1 : ∀ env x, foldedSetIterable iter1 env x = pure x := by intro _ _; rfl) :
    DE X (.ListComp elt [⟨tg, iter, ifs, 0⟩, ⟨tg1, iter1, ifs1, 0⟩] scope pos) (dLc2 ti gd tt ti1 gd1 tt1 te (own.map (·.2)) vs1) :=
  ⟨PE.imp (pe_lc2 hc hN hi.pi ok hv hg.pg (fun s H C cl fp => (ht s H C cl fp).pt) (fun s H C cl fp => (hi1 s H C cl fp).pi) hg1.pg (fun s H C cl fp => (ht1 s H C cl fp).pt) (fun s H C cl fp => (he s H C cl fp).pe) hs hs1) fun σ H Q h => lc2_lift hg hg1 h⟩
theorem dst_setLc2 (i : Nat) {y : Str} {py spos : Pos} {elt tg iter tg1 iter1 : Expr} {ifs ifs1 : List Expr} {scope : Scope} {own : List (Str × Nat)} {vs1 : List Nat} {ti ti1 : TDI} {g g1 : TG} {gd gd1 : TDG} {tt tt1 : TDT} {te : TDE} (hc : X.calm = true) (hN : X.N.Nodup) (hi : DI X tg iter ti) (ok : BlkOk X.N X.env.scope scope own) (hv : ∀ i ∈ vs1, i ∈ own.map (·.2))
    (hg : DGc X scope tg (own.map (·.2)) g gd) (ht : ∀ (s : Shared) (H : Hp) (C : Addr) (cl : List (Str × Addr)) (fp : List Addr), DTs (X.blk s H scope (compEnvC scope cl C X.env) fp) ifs tt)
    (hi1 : ∀ (s : Shared) (H : Hp) (C : Addr) (cl : List (Str × Addr)) (fp : List Addr), DI (X.blk s H scope (compEnvC scope cl C X.env) fp) tg1 iter1 ti1)
    (hg1 : DGc X scope tg1 vs1 g1 gd1) (ht1 : ∀ (s : Shared) (H : Hp) (C : Addr) (cl : List (Str × Addr)) (fp : List Addr), DTs (X.blk s H scope (compEnvC scope cl C X.env) fp) ifs1 tt1)
    (he : ∀ (s : Shared) (H : Hp) (C : Addr) (cl : List (Str × Addr)) (fp : List Addr), DE (X.blk s H scope (compEnvC scope cl C X.env) fp) elt te)
    (hsw : swapsWith (.ListComp elt [⟨tg, iter, ifs, 0⟩, ⟨tg1, iter1, ifs1, 0⟩] scope pos) (some (.Name y py)) spos.line X.env = pure true) (hy : X.N[i]? = some y := by rfl) (hyl : X.env.scope.names.lookup y = some .local := by rfl)
    (hs : ∀ x, foldedSetIterable iter X.env x = pure x := by intro _; rfl) (hs1 : ∀ env x, foldedSetIterable iter1 env x = pure x := by intro _ _; rfl) :
    DSt X (.Assign [.Name y py] (.ListComp elt [⟨tg, iter, ifs, 0⟩, ⟨tg1, iter1, ifs1, 0⟩] scope pos) spos) (dAsg (dLc2 ti gd tt ti1 gd1 tt1 te (own.map (·.2)) vs1) (dName i)) :=
  ⟨PS.imp (ps_setLc2 (i := i) hc hN hy hyl hsw hi.pi ok hv hg.pg (fun s H C cl fp => (ht s H C cl fp).pt) (fun s H C cl fp => (hi1 s H C cl fp).pi) hg1.pg (fun s H C cl fp => (ht1 s H C cl fp).pt) (fun s H C cl fp => (he s H C cl fp).pe) hs hs1) fun D σ H ⟨F, G, E, m, δ, R, rl, rs, h, k⟩ =>
    lc2_lift (Q := fun x H1 => gName i x σ H1 D.nx) hg hg1 ⟨F, G, E, m, δ, _, rl, rs, h, fun x m1 F1 E1 H1 v f1 e1 rl1 rp1 h1 => k.nx _ m1 F1 E1 H1 _ f1 e1 rl1 ((rs.mono f1 e1).set i rp1) h1⟩⟩
end
end DL
set_option Elab.async false
set_option linter.all false
set_option maxRecDepth 100000
set_option maxHeartbeats 4000000
/-! D6j: op=, attributes as targets. -/
namespace DL
open PySem PySem.Spec PyProof.Rows L2 SlX

section
variable {X : Cx} {pos tpos : Pos} {o e value : Expr} {ta te : TDE} {C : Addr} {f : Str}
/-! ### name op= e -/
theorem ipd_add : OpR X (inplaceOp .Add) (rI0 fun i j => .int (i + j)) := fun pins s σ H x y v u Q I r1 r2 ⟨i, j, e1, e2, q⟩ => by
  subst e1 e2
  obtain ⟨t, rfl⟩ := r1
  obtain ⟨t', rfl⟩ := r2
  exact PyProof.Rows.iadd_int ⟨.int (i + j), H, I.tok _, ⟨_, rfl⟩, q⟩
def dIAdd : DR2 := fun x y m R => ∃ i j, x = .int i ∧ y = .int j ∧ R (.int (i + j)) m
theorem id_add : OpD X (inplaceOp .Add) dIAdd := OpR.imp ipd_add fun x y H Q ⟨F, G, E, m, dx, dy, R, rl, rx, ry, ⟨i, j, e1, e2, h⟩, k⟩ => by
  subst e1 e2
  cases rx
  cases ry
  exact ⟨i, j, rfl, rfl, k.val rl (.int _) h⟩
def dIMul : DR2 := fun x y m R => ∃ i j, x = .int i ∧ y = .int j ∧ CMul i j ∧ R (.int (i * j)) m
theorem id_mul : OpD X (inplaceOp .Mult) dIMul := OpR.imp iop_mul fun x y H Q ⟨F, G, E, m, dx, dy, R, rl, rx, ry, ⟨i, j, e1, e2, hc, h⟩, k⟩ => by
  subst e1 e2
  cases rx
  cases ry
  exact ⟨i, j, rfl, rfl, hc, k.val rl (.int _) h⟩
def dAug (i : Nat) (te : TDE) (g : DR2) : TDS := fun D1 δ m => ∃ x, δ[i]? = some (some x) ∧ te δ m fun y m1 => g x y m1 fun z m2 => D1.nx (δ.set i (some z)) m2
theorem dst_aug (i : Nat) {x : Str} {op : Operator} {g : DR2} (hN : X.N.Nodup) (he : DE X e te) (ho : OpD X (inplaceOp op) g) (hi : X.N[i]? = some x := by rfl) (hx : Loc X.env.scope x := by first | exact Or.inl rfl | exact Or.inr rfl)
    (hf : X.fn x = true ∨ X.env.scope.names.lookup x = some .local := by first | exact .inl rfl | exact .inr rfl | assumption) : DSt X (.AugAssign (.Name x tpos) op e pos) (dAug i te g) :=
  ⟨PS.imp (ps_aug (i := i) hN hi hx he.pe ho hf) fun D σ H ⟨F, G, E, m, δ, R, rl, rs, ⟨x, h0, h⟩, k⟩ => by
    obtain ⟨v, e1, r⟩ := rs.2 i x h0
    refine ⟨v, e1, F, G, E, m, δ, _, rl, rs, h, fun y m1 F1 E1 H1 u f1 e1 rl1 rp1 h1 => ⟨F1, G, E1, m1, x, y, _, rl1, r.mono f1 e1, rp1, h1, fun z m2 F2 E2 H2 w f2 e2 rl2 rp2 h2 => ?_⟩⟩
    exact (k.on f1 e1).nx _ m2 F2 E2 H2 _ f2 e2 rl2 (((rs.mono f1 e1).mono f2 e2).set i rp2) h2⟩

/-! ### o.f op= e, f a slot of an instance that is being made -/
def dAugSlot (C : Addr) (i : Nat) (ta te : TDE) (g : DR2) : TDS := fun D1 δ m => ta δ m fun x m1 => ∃ d, slotOf C i m1 x = some d ∧ te δ m1 fun y m2 => g d y m2 fun z m3 => ∃ n xs, x = .ref n ∧ m3[n]? = some (.slt C xs) ∧ D1.nx δ (m3.set n (.slt C (putSD i z xs)))
theorem dst_augSlot {i : Nat} {op : Operator} {g : DR2} (c : SlF X.K C f i) (ha : DE X o ta) (hv : DE X value te) (ho : OpD X (inplaceOp op) g) : DSt X (.AugAssign (.Attribute o f tpos) op value pos) (dAugSlot C i ta te g) := by
  refine ⟨⟨fun pins s σ H D I ⟨F, G, E, m, δ, R, rl, rs, h, k⟩ => ?_⟩⟩
  refine wpAny_AugAssign_AttributeAny (thn (ha.pe.run pins s σ H _ I ⟨F, G, E, m, δ, _, rl, rs, h, fun x m1 F1 E1 H1 v f1 e1 rl1 rp1 h1 => (⟨F1, E1, x, m1, f1, e1, rl1, rp1, h1⟩ : (fun (v : V) (H1 : Hp) => ∃ F1 E1 x m1, FSub F F1 ∧ ESub E E1 ∧ Rl X.K F1 G H1 E1 m1 ∧ Rp X.K F1 E1 x v ∧
    (∃ d, slotOf C i m1 x = some d ∧ te δ m1 fun y m2 => g d y m2 fun z m3 => ∃ n xs, x = .ref n ∧ m3[n]? = some (.slt C xs) ∧ R.nx δ (m3.set n (.slt C (putSD i z xs))))) v H1)⟩) fun ov s1 ⟨vx, H1, I1, rx, F1, E1, x, m1, f1, e1, rl1, rp1, d, hd, h1⟩ => ?_)
  obtain ⟨a, dx, vs, u, rfl, sl, hu, ru⟩ := rl1.slot rp1 hd
  obtain rfl : ov = Value.ref a := rx
  obtain ⟨p, s1'⟩ := c.sl
  refine getslot_ok I1 sl c.cls s1' hu fun w2 s2 I2 rw2 => ?_
  refine thn (hv.pe.run pins s2 σ H1 _ I2 ⟨F1, G, E1, m1, δ, _, rl1, rs.mono f1 e1, h1, fun y m2 F2 E2 H2 v f2 e2 rl2 rp2 h2 => (⟨F2, E2, y, m2, f2, e2, rl2, rp2, h2⟩ : (fun (v : V) (H2 : Hp) => ∃ F2 E2 y m2, FSub F1 F2 ∧ ESub E1 E2 ∧ Rl X.K F2 G H2 E2 m2 ∧ Rp X.K F2 E2 y v ∧
    (g d y m2 fun z m3 => ∃ n xs, x = .ref n ∧ m3[n]? = some (.slt C xs) ∧ R.nx δ (m3.set n (.slt C (putSD i z xs))))) v H2)⟩) fun w3 s3 ⟨vy, H2, I3, ry, F2, E2, y, m2, f2, e2, rl2, rp2, h2⟩ => ?_
  refine thn (ho pins s3 σ H2 u vy w2 w3 _ I3 rw2 ry ⟨F2, G, E2, m2, d, y, _, rl2, ru.mono f2 e2, rp2, h2, fun z m3 F3 E3 H3 v f3 e3 rl3 rp3 h3 => (⟨F3, E3, z, m3, f3, e3, rl3, rp3, h3⟩ : (fun (v : V) (H3 : Hp) => ∃ F3 E3 z m3, FSub F2 F3 ∧ ESub E2 E3 ∧ Rl X.K F3 G H3 E3 m3 ∧ Rp X.K F3 E3 z v ∧
    (∃ n xs, x = .ref n ∧ m3[n]? = some (.slt C xs) ∧ R.nx δ (m3.set n (.slt C (putSD i z xs))))) v H3)⟩) fun w4 s4 ⟨vz, H3, I4, rz, F3, E3, z, m3, f3, e3, rl3, rp3, n, xs, ex, hm, h3⟩ => ?_
  subst ex
  obtain ⟨q, hq, eq, vs', a', b, ne, _⟩ := rl3.ref_at ((rp1.mono f2 e2).mono f3 e3) hm
  cases eq
  exact setslot_ok I4 a' c.cls s1' rz fun s5 I5 => ⟨σ, _, I5, ((k.on f1 e1).on f2 e2).nx _ _ F3 E3 _ σ f3 e3 (rl3.setSlot hq hm b ne rp3) (((rs.mono f1 e1).mono f2 e2).mono f3 e3) h3⟩

/-! ### o.f as a target -/
def dGFld (C : Addr) (f : Str) (ta : TDE) : TDG := fun y δ m R => ta δ m fun x m1 => ∃ n fs, x = .ref n ∧ m1[n]? = some (.ins C fs) ∧ fs.length < 1000 ∧ R δ (m1.set n (.ins C (putFD f y fs)))
theorem dg_fld {f : Str} (c : InF X.K C f) (ha : DE X o ta) : DG X (.Attribute o f tpos) (dGFld C f ta) := by
  refine ⟨⟨fun pins s σ H v u Q I r ⟨F, G, E, m, δ, d, R, rl, rs, rp, h, k⟩ => ?_⟩⟩
  rw [arm_assign_Attribute]
  refine wpAny_bind (wpAny_holding (thn (ha.pe.run pins s σ H _ I ⟨F, G, E, m, δ, _, rl, rs, h, fun x m1 F1 E1 H1 v f1 e1 rl1 rp1 h1 => (⟨F1, E1, x, m1, f1, e1, rl1, rp1, h1⟩ : (fun (v : V) (H1 : Hp) => ∃ F1 E1 x m1, FSub F F1 ∧ ESub E E1 ∧ Rl X.K F1 G H1 E1 m1 ∧ Rp X.K F1 E1 x v ∧
    (∃ n fs, x = .ref n ∧ m1[n]? = some (.ins C fs) ∧ fs.length < 1000 ∧ R δ (m1.set n (.ins C (putFD f d fs))))) v H1)⟩) fun ov s1 ⟨vx, H1, I1, rx, F1, E1, x, m1, f1, e1, rl1, rp1, n, fs, ex, hm, hz, h1⟩ => ?_))
  subst ex
  obtain ⟨q, hq, rfl, dx, ws, a, b, ne⟩ := rl1.ref_at rp1 hm
  obtain rfl : ov = Value.ref q.1 := rx
  refine wpAny_bind (wpAny_standAt (wpAny_bind (wpAny_holding ?_)))
  refine setattr_ok I1 a c.cls c.no (by rw [← rpf_length b]; exact hz) r fun s2 I2 => ?_
  refine wpAny_release ?_
  exact ⟨σ, _, I2, (k.on f1 e1) _ _ F1 E1 _ σ FSub.refl ESub.refl (rl1.setFld hq b ne (rp.mono f1 e1)) (rs.mono f1 e1) h1⟩
end
end DL
set_option Elab.async false
set_option linter.all false
set_option maxRecDepth 100000
set_option maxHeartbeats 4000000
/-! D6k: try that catches nothing; methods with one keyword. -/
namespace DL
open PySem PySem.Spec PyProof.Rows L2 SlX

section
variable {X : Cx} {pos : Pos}
/-- try: body except x: suite, where the body raises nothing -/
theorem dst_tryQ {x : Str} {c : Value} {body suite : List Stmt} {b₀ : Stmt} {np pos' : Pos} {t : TDS} (hs : X.stack = X.env :: X.outer) (hf : X.env.frame = some X.env.locals) (hc : Names X x c)
    (hb : ∀ (pn : List (Addr × Obj)) (xe : Value → Shared → Prop), DSs (X.tr pn xe) body t) : DSt X (.Try body [.ExceptHandler (some (.Name x np)) none (b₀ :: suite) pos'] [] [] pos) t :=
  ⟨PS.imp (ps_try_only (Wout := fun _ _ _ _ => False) (tb := fun _ => liftS X.K t) (ts := fun _ _ _ => tNever) hs hf hc (fun u s' ⟨a, B, sI, pins, σ, H, cls, d, e, I, nb, up, sky, na, os, ag, w⟩ => w.elim) (fun W pn xe _ _ => (hb pn xe).ps) fun _ _ _ _ _ _ _ => pss_never) fun D σ H h => h⟩

/-! ### o.m(nm = e) -/
def dMethK (C : Addr) (m : Str) (spec : DRs) (ta te : TDE) : TDE := fun δ mu R => ta δ mu fun x m1 => isObjI C m m1 x ∧ te δ m1 fun y m2 => spec [x, y] m2 R
theorem de_methKI {C g : Addr} {m nm : Str} {n j : Nat} {fd : FuncData} {ps : List Str} {spec : DRs} {o e : Expr} {ta te : TDE} {apos kp : Pos} {pl : Sem Bool} (c : Cls X.K C) (hm : Meth X.K C m g) (F : FnOk X.prog X.w X.K X.mg X.base CX0 n g fd ps (spD X.K spec))
    (hb : KBn X.K fd ps 1 [nm] (fun us ws => us ++ ws) (fun vs zs => vs ++ zs)) (hr : Room j X.A) (ho : DE X o ta) (he : DE X e te) (hk : n ≤ j := by decide)
    (hks : (backToKw pos (keywordEach [⟨some nm, e, kp⟩] X.env)).filterMap (·.1) = [nm] := by rfl) (hall : (backToKw pos (keywordEach [⟨some nm, e, kp⟩] X.env)).all (·.1.isSome) = true := by rfl)
    (hpl : ((backTo pos (starEach [] X.env)).any (·.1) || (backToKw pos (keywordEach [⟨some nm, e, kp⟩] X.env)).any (·.1.isNone)) = false := by rfl)
    (ht : eval (.Call (.Attribute o m apos) [] [⟨some nm, e, kp⟩] pos) X.env = (do
      let ov ← eval o X.env
      standAt apos.atName
      let (f, first) ← holding [ov] (getMethod ov m pl)
      callWith pos f first (backTo pos (starEach [] X.env)) (backToKw pos (keywordEach [⟨some nm, e, kp⟩] X.env))) := by rfl) : DE X (.Call (.Attribute o m apos) [] [⟨some nm, e, kp⟩] pos) (dMethK C m spec ta te) := by
  refine ⟨⟨fun pins s σ H Q I ⟨F0, G, E, mu, δ, R, rl, rs, h, k⟩ => ?_⟩⟩
  refine PySem.W.methodCall_KW (pl := pl) (thn (ho.pe.run pins s σ H _ I ⟨F0, G, E, mu, δ, _, rl, rs, h, fun x m1 F1 E1 H1 v f1 e1 rl1 rp1 h1 => (⟨F1, E1, x, m1, f1, e1, rl1, rp1, h1⟩ : (fun (v : V) (H1 : Hp) => ∃ F1 E1 x m1, FSub F0 F1 ∧ ESub E E1 ∧ Rl X.K F1 G H1 E1 m1 ∧ Rp X.K F1 E1 x v ∧
    (isObjI C m m1 x ∧ te δ m1 fun y m2 => spec [x, y] m2 R)) v H1)⟩) fun u s1 ⟨vx, H1, I1, rx, F1, E1, x, m1, f1, e1, rl1, rp1, hi, h1⟩ => ?_) ht
  obtain ⟨a, dx, ws, rfl, ha, l⟩ := rl1.objI rp1 hi
  obtain rfl : u = Value.ref a := rx
  refine own_meth I1 (.inr ⟨dx, ws, ha, c, l⟩) hm ?_
  refine PySem.W.callWith_KW0 (first := [.ref a]) (h₀ := X.base) I.ok.mod.kin hm.kp hall ?_ hpl
  have he1 : tCons (liftE X.K te) tNil σ H1 fun vs H' => ∃ F2 E2 y v m2, FSub F1 F2 ∧ ESub E1 E2 ∧ Rl X.K F2 G H' E2 m2 ∧ Rp X.K F2 E2 y v ∧ vs = [v] ∧ spec [x, y] m2 R :=
    ⟨F1, G, E1, m1, δ, _, rl1, rs.mono f1 e1, h1, fun y m2 F2 E2 H2 v f2 e2 rl2 rp2 h2 => ⟨F2, E2, y, v, m2, f2, e2, rl2, rp2, rfl, h2⟩⟩
  refine thn ((pk_cons (nm := some nm) (kpos := kp) he.pe pk_nil).run pos pins s1 σ H1 _ I1 he1) fun ws2 s2 ⟨zs, H2, I2, rz, q2⟩ => ⟨I2.kIn, ?_⟩
  obtain ⟨F2, E2, y, v, m2, f2, e2, rl2, rp2, ez, h2⟩ := q2
  subst ez
  rw [hks]
  exact run_fnN (E := E0) (ps := ps) (fd := fd) (n := 1) (ks := [nm]) F (hr.mono hk) hb pass0 I2 (vs := [.ref a]) (us := [.ref a]) (.cons rfl .nil) rz rfl rfl ⟨F2, G, E2, m2, [x, y], R, rl2, .cons (rp1.mono f2 e2) (.cons rp2 .nil), h2, (k.on f1 e1).on f2 e2⟩
end
end DL
set_option Elab.async false
set_option linter.all false
set_option maxRecDepth 100000
set_option maxHeartbeats 4000000
/-! D6l: next(e for i, x in enumerate(s) if ..., d). -/
namespace DL
open PySem PySem.Spec PyProof.Rows L2 SlX

theorem nne1 {l n : Nat} (h : l < n) (e : n + 1 = l) : False := by omega
theorem nlt2 {b n l : Nat} (h : l < n) (e : b = n + 1 ∨ b = n ∨ b = l) : b < n + 2 := by omega
theorem nlt3 {b n m k : Nat} (h1 : b < n + 2) (h2 : k = n + 2) (h3 : k ≤ m) : b < m := by omega
theorem nne2 {c n : Nat} (h : c < n) (e : c = n + 1 ∨ c = n) : False := by omega
/-! ### enumerate over tuples -/
theorem draws_tup {prog : Program} {w : World} {A : Around} (hh : A.handled = none) (it l : Addr) (hne : l ≠ it) (items : Array Value) :
    Draws prog w A it [it, l] items.size (fun i v => items[i]? = some v) (fun i h => h.IsTupleIter it l i ∧ h.IsTuple l items) where
  live := fun _ _ st => let ⟨o, ho, _⟩ := st.1; ⟨o, ho⟩
  frame := fun _ _ _ st hk => ⟨st.1.at fun o e => hk it (by simp) o e, let ⟨o, ho, r⟩ := st.2; ⟨o, hk l (by simp) o ho, r⟩⟩
  item := fun i s Q E hi st hQ => by
    have hx : items[i]? = some items[i] := by simp [hi]
    refine RZ.nextOf_tuple_item st.1 st.2 hx fun h' hit' hs' => ?_
    obtain ⟨o, ho, r⟩ := st.2
    exact hQ _ h' s.toks hx ⟨hit', ⟨o, (hs'.2 l hne).trans ho, r⟩⟩ hs'
  done := fun s Q E st hE => RZ.nextOf_tuple_end hh st.1 st.2 (by simp) hE
theorem meets_enumT (l : Addr) (items : Array Value) (n : Nat) (dct : Option Addr) (sl : Array (Option Value)) :
    Meets (Builtin.«enumerate.__new__» ⟨[.type "enumerate", .ref l], []⟩) (fun _ R s => s.heap.get? l = some { cls := .type "tuple", dict := dct, data := .seq items n, slots := sl } ∧
      R (.ok (.ret (.ref (s.heap.push { cls := .type "tuple_iterator", data := .fields #[.ref l, .int 0 0] }).objs.size)))
        { s with heap := (s.heap.push { cls := .type "tuple_iterator", data := .fields #[.ref l, .int 0 0] }).push { cls := .type "enumerate", data := .fields #[.none, .bool false, .ref s.heap.objs.size, rawInt 0, .none, .none] } }) :=
  .of_wp fun prog w A R s h => by
    obtain ⟨hp, g, d, tk, os⟩ := s; obtain ⟨hl, h⟩ := h
    have hsub := sub_enumerate
    have hL : Heap.IsTuple (Shared.heap ⟨hp, g, d, tk, os⟩) l items := ⟨_, hl, rfl, n, rfl⟩
    wp_walk using AutoSeq1.wpAny_loadPart' hl
    refine wpAny_stack_any fun st => wpAny_pure ?_
    split
    · rename_i c _ _ _ _ _
      cases (c == Value.type "enumerate")
      · wp_walk using AutoSeq1.wpAny_loadPart' hl, wpAny_pyIter_tuple hL
        exact ⟨_, rfl, h⟩
      · wp_walk using AutoSeq1.wpAny_loadPart' hl, wpAny_pyIter_tuple hL
        exact ⟨_, rfl, h⟩
    · wp_walk using AutoSeq1.wpAny_loadPart' hl, wpAny_pyIter_tuple hL
      exact ⟨_, rfl, h⟩
section
variable {prog : Program} {w : World} {A : Around} {E : Value → Shared → Prop} {s : Shared}
theorem call_enumT {l : Addr} {items : Array Value} {Q : Value → Shared → Prop} (hL : s.heap.IsTuple l items)
    (h : ∀ h', IsEnum h' (s.heap.objs.size + 1) s.heap.objs.size 0 .none → h'.IsTupleIter s.heap.objs.size l 0 → h'.objs.size = s.heap.objs.size + 2 →
      (∀ b o, s.heap.get? b = some o → h'.get? b = some o) → Q (.ref (s.heap.objs.size + 1)) { s with heap := h' }) :
    wpAny (model prog w) A (call (.type "enumerate") [.ref l]) Q E s := by
  obtain ⟨⟨c, dct, dt, sl⟩, hl, hc, n, hd⟩ := hL
  replace hc : c = .type "tuple" := hc
  replace hd : dt = .seq items n := hd
  subst hc hd
  refine callType_new F.called_enumerate (by decide) (F.typeCall_enumerate_1 _) (F.newCall_enumerate_1 _) (fun obj => F.args_object_init_2 obj _) F.entry_enumerate_new
    (meets_enumT l items n dct sl) ⟨hl, ?_⟩
  have hz : (s.heap.push { cls := .type "tuple_iterator", data := .fields #[.ref l, .int 0 0] }).objs.size = s.heap.objs.size + 1 := Heap.size_push ..
  show _ ∧ _
  rw [hz]
  have he : IsEnum ((s.heap.push { cls := .type "tuple_iterator", data := .fields #[.ref l, .int 0 0] }).push
      { cls := .type "enumerate", data := .fields #[.none, .bool false, .ref s.heap.objs.size, rawInt 0, .none, .none] }) (s.heap.objs.size + 1) s.heap.objs.size 0 .none := by
    have := Heap.get?_push_size (s.heap.push { cls := .type "tuple_iterator", data := .fields #[.ref l, .int 0 0] })
      (o := { cls := .type "enumerate", data := .fields #[.none, .bool false, .ref s.heap.objs.size, rawInt 0, .none, .none] }) rfl
    rw [hz] at this; exact this
  refine ⟨⟨_, he, rfl⟩, h _ he ⟨_, Heap.get?_push_of_some _ (Heap.get?_push_size _ rfl), rfl, rfl⟩ (by rw [Heap.size_push, hz]) fun b o x => Heap.get?_push_of_some _ (Heap.get?_push_of_some _ x)⟩
/-- enumerate(s), ready to be walked -/
theorem enum_src {l : Addr} {its : Array Value} {Q : Value → Shared → Prop} (hL : s.heap.IsList l its ∨ s.heap.IsTuple l its)
    (h : ∀ (h' : Heap) (fp : List Addr) (St : Nat → Heap → Prop) (Mid : Nat → Addr → Heap → Prop), h'.objs.size = s.heap.objs.size + 2 → (∀ b o, s.heap.get? b = some o → h'.get? b = some o) →
      (∀ A' : Around, A'.handled = none → WalksU prog w A' (s.heap.objs.size + 1) fp [s.heap.objs.size + 1, s.heap.objs.size] its.size (fun i vals => ∃ t x, its[i]? = some x ∧ vals = #[.int i t, x]) St Mid) → St 0 h' → (∀ b ∈ fp, b = s.heap.objs.size + 1 ∨ b = s.heap.objs.size ∨ b = l) →
      Q (.ref (s.heap.objs.size + 1)) { s with heap := h' }) : wpAny (model prog w) A (call (.type "enumerate") [.ref l]) Q E s := by
  have hlt : l < s.heap.objs.size := by
    rcases hL with ⟨o, e, _⟩ | ⟨o, e, _⟩ <;> exact Heap.lt_size e
  have nin : s.heap.objs.size + 1 ∉ [s.heap.objs.size, l] := by
    intro z
    rcases List.mem_cons.mp z with e | z
    · exact Nat.succ_ne_self _ e
    · exact nne1 hlt (List.mem_singleton.mp z)
  have bd : ∀ b ∈ [s.heap.objs.size + 1, s.heap.objs.size, l], b = s.heap.objs.size + 1 ∨ b = s.heap.objs.size ∨ b = l := fun b hb => by
    simpa only [List.mem_cons, List.not_mem_nil, or_false] using hb
  rcases hL with hL | hL
  · refine call_enumerate_list hL fun h' he hit hz hk => ?_
    refine h h' _ _ _ hz hk (fun A' hA => (WalksT.enumerateD (Draws.list (prog := prog) (w := w) (A := A'.in1) hA s.heap.objs.size l (Nat.ne_of_lt hlt) its) (s.heap.objs.size + 1) (Nat.succ_ne_self _) nin (by simp)).toU) ⟨⟨_, he⟩, hit, hL.at fun o e => hk l o e⟩ bd
  · refine call_enumT hL fun h' he hit hz hk => ?_
    refine h h' _ _ _ hz hk (fun A' hA => (WalksT.enumerateD (draws_tup (prog := prog) (w := w) (A := A'.in1) hA s.heap.objs.size l (Nat.ne_of_lt hlt) its) (s.heap.objs.size + 1) (Nat.succ_ne_self _) nin (by simp)).toU) ⟨⟨_, he⟩, hit, (let ⟨o, ho, r⟩ := hL; ⟨o, hk l o ho, r⟩)⟩ bd
end

/-- the generator expression's own scope -/
structure GenS2 (env : Env) (scope : Scope) (xa xb : Str) : Prop where
  kind : scope.kind = .function
  co : scope.isCoroutine = false
  cell : ∀ y ∈ scope.names, y.2 ≠ .cell
  dot : scope.names.lookup (".0" : Str) = some NameKind.local
  la : scope.names.lookup xa = some .local
  lb : scope.names.lookup xb = some .local
  ne : xa ≠ xb
  free : ∀ y ∈ scope.names, y.2 = .free → ∃ c, env.cells.lookup y.1 = some c
section
variable {X : Cx} {pins : List (Addr × Obj)} {σ : L2.St} {H : Hp} {s : Shared}
/-- the test at the i-th item, in the generator's frame; s1: what stood when it was made -/
def TestAt (X : Cx) (scope : Scope) (xb : Str) (test : Expr) (P : Addr) (s1 : Shared) (its : Array Value) (pz : Nat → Bool) : Prop :=
  ∀ (cenv : Env) (A' : Around) (E' : Value → Shared → Prop) (i : Nat) (u : Value) (s₂ : Shared) (m₂ : Str → Option Value), cenv.scope = scope → cenv.cells = cloFrom X.env.cells scope.names [] → its[i]? = some u → s₂.heap.Ns cenv.locals m₂ → m₂ xb = some u →
    (∀ b o, b ≠ P → s1.heap.get? b = some o → s₂.heap.get? b = some o) → wpAny (model X.prog X.w) A' (isTrue test cenv (eval test cenv)) (fun ok s₃ => ok = pz i ∧ Keeps s₂ s₃) E' s₂
/-- the generator g, ready -/
def ReadyE (X : Cx) (pins : List (Addr × Obj)) (σ : L2.St) (H1 : Hp) (P : Addr) (n : Nat) (pz : Nat → Bool) (g : Addr) (s5 : Shared) : Prop :=
  ∃ (fp wr : List Addr) (G : Array GenState → Array GenState → Prop) (St : Nat → Shared → Prop),
    WalksS X.prog X.w X.A.in1 g fp wr G (passing pz n 0).length (fun j y => ∃ i : Nat, (passing pz n 0)[j]? = some i ∧ ∃ t : Tok, y = .int i t) St ∧ St 0 s5 ∧ s5.TypeIs (.ref g) "generator" ∧
    ∀ s', Moved wr G s5 s' → ∃ H2, GxR.Tabbed P H1 H2 ∧ Inv X pins σ H2 s'
theorem gen_enum {c P : Addr} {src test : Expr} {xa xb : Str} {pa pb pt pe pcall pen gpos : Pos} {kt : Nat} {scope : Scope} {te : TE} {k : Nat} {Q' : Value → Shared → Prop}
    (hr : Room k X.A) (TB : GxR.TabB X.base X.mg c P) (hcode : X.env.code = .ref c) (S : GenS2 X.env scope xa xb) (hg : Gl X "enumerate") (hm : X.mg "enumerate" = none) (hi : PE X src te)
    (hst : starEach [src] X.env = (false, eval src X.env) :: starEach [] X.env) (hda : (xa == ("__debug__" : Str)) = false)
    (hs : ∀ v, genFold (.Call (.Name "enumerate" pen) [src] [] pcall) X.env v = pure v) (I : Inv X pins σ H s)
    {R : VK} (h : te σ H R) (hR : ∀ v H1, R v H1 → ∃ a vs, v = .ref a ∧ (SqL X.K H1 a vs ∨ SqT X.K H1 a vs) ∧ GxR.TabG H1 P ∧ ∀ (s1 : Shared) (its : Array Value), Inv X pins σ H1 s1 → Vals vs its.toList →
      ∃ pz, TestAt X scope xb test P s1 its pz ∧ ∀ g s5, ReadyE X pins σ H1 P vs.length pz g s5 → Q' (.ref g) s5) :
    wpAny (model X.prog X.w) X.A (eval (.GeneratorExp (.Name xa pe) [⟨.Tuple [.Name xa pa, .Name xb pb] kt pt, .Call (.Name "enumerate" pen) [src] [] pcall, [test], 0⟩] scope gpos) X.env) Q' X.xe s := by
  refine wpAny_GeneratorExp_walksQT hr.hd S.co (closure_ok S.free) S.cell S.dot S.la S.lb S.ne S.kind (by have := hr.dp; omega) ?_ hs
  refine wpAny_Call_Name_kw (ld_blt I hg hm boot_enumerate ?_)
  refine PyProof.Rows.callWith_type1 ?_ hst rfl
  rw [hst]
  show wpAny _ _ (spliced ((false, eval src X.env) :: backTo pcall (starEach [] X.env))) _ _ s
  refine Calls.spliced_cons (thn (hi.run pins s σ H _ I h) fun xv s1 ⟨v, H1, I1, r1, qR⟩ => Calls.spliced_nil ?_)
  obtain ⟨a, vs, ev, hsq, ⟨ps, hP, ht⟩, q1⟩ := hR v H1 qR
  subst ev
  obtain rfl : xv = Value.ref a := r1
  obtain ⟨its, hL, rv⟩ : ∃ its : Array Value, (s1.heap.IsList a its ∨ s1.heap.IsTuple a its) ∧ Vals vs its.toList := by
    rcases hsq with q | q
    · obtain ⟨its, r, pl, _⟩ := I1.list q
      exact ⟨its.toArray, .inl pl.isList, by simpa using r⟩
    · obtain ⟨its, r, pl, _⟩ := I1.tuple q
      exact ⟨its.toArray, .inr pl, by simpa using r⟩
  obtain ⟨pz, htest, hQ⟩ := q1 s1 its I1 rv
  refine enum_src hL fun h2 fp St Mid hz2 hk2 W hst2 hfp => ?_
  have hPs : s1.heap.get? P = some { cls := .none, data := .fields ps } := I1.hok P _ hP
  have hPlt : P < s1.heap.objs.size := Heap.lt_size hPs
  have hP2 : h2.get? P = some { cls := .none, data := .fields ps } := hk2 _ _ hPs
  have cd : PySem.W.CodeHd h2 c P := TB.code.keeps fun b u e => hk2 _ _ (I1.bk b u e)
  have lim2 : h2.NoLimit := I1.nolimit.keeps hk2
  refine (W X.A hr.hd).self 0 _ _ _ hst2 ?_
  refine ⟨lim2, ?_⟩
  have cont : ∀ (code : Value) (h3 : Heap) (tk : Nat) (ps' : Array Value), Heap.ExtBut P h2 h3 → h2.objs.size ≤ h3.objs.size → h3.get? P = some { cls := .none, data := .fields ps' } → (∃ more, ps' = ps ++ more) → TriplesOk ps'.toList →
      wpAny (model X.prog X.w) X.A (builtinsFor X.env.globals X.env.builtins) (fun bi s₄ =>
        ∃ I fp wr n₀ Pt St₀ Mid pz F, Value.ref (s1.heap.objs.size + 1) = .ref I ∧ (∀ A' : Around, A'.handled = none → WalksU X.prog X.w A' I fp wr n₀ Pt St₀ Mid) ∧ (∀ i vals, Pt i vals → ∃ va vb, vals = #[va, vb]) ∧ St₀ 0 s₄.heap ∧ (∀ b ∈ fp, b < s₄.heap.objs.size) ∧ s₄.heap.NoLimit ∧ cStatics ∉ wr ∧
          (∀ href : Heap, (∀ b o, s₄.heap.get? b = some o → href.get? b = some o) →
            QuietGenT X.prog X.w (genEnv scope (cloFrom X.env.cells scope.names []) s₄.heap.objs.size code bi X.env) xa xb [test] (.Name xa pe) (List.range s₄.heap.objs.size) wr Pt pz F href) ∧
          (∀ a h₅ tk gs, gs.bare = true → s₄.heap.objs.size < a → h₅.objs.size = a + 1 → (∀ b o, s₄.heap.get? b = some o → h₅.get? b = some o) →
            WalksS X.prog X.w X.A.in4 a (a :: s₄.heap.objs.size :: List.range s₄.heap.objs.size) (s₄.heap.objs.size :: wr) (GenOnlyQ s₄.gens.size) (passing pz n₀ 0).length
              (fun j y => ∃ i, (passing pz n₀ 0)[j]? = some i ∧ F i y) (GenAt X.prog X.w X.A.in4 a s₄.gens.size s₄.heap.objs.size (List.range s₄.heap.objs.size) wr pz n₀ F) →
            GenAt X.prog X.w X.A.in4 a s₄.gens.size s₄.heap.objs.size (List.range s₄.heap.objs.size) wr pz n₀ F 0 { s₄ with gens := s₄.gens.push gs, toks := tk, heap := h₅ } →
            Q' (.ref a) { s₄ with gens := s₄.gens.push gs, toks := tk, heap := h₅ })) X.xe { s1 with heap := h3, toks := tk } := by
    intro code h3 tk ps' hx hsz hP3 hmore ht3
    obtain ⟨bm, ob, e1, e2, e3, e4, e5, e6, e7, e8⟩ := TB.bm
    have hcP : cStatics ≠ P := fun e => by
      obtain ⟨_, hns, _⟩ := I1.nolimit
      obtain ⟨o', es, ep, ho, hd, _⟩ := hns
      rw [e, hPs] at ho
      cases ho
      cases hd
    have hcl : cStatics < s1.heap.objs.size := let ⟨_, hns, _⟩ := I1.nolimit; hns.lt
    have keep3 : ∀ b u, b ≠ P → s1.heap.get? b = some u → h3.get? b = some u := fun b u hb e => hx b u hb (hk2 _ _ e)
    have glob3 : h3.Ns mainGlobals X.mg := by
      have := I1.mod.glob.keeps (fun b o e => hk2 b o (I1.bk b o e))
      exact this.extBut hx TB.gP
    refine wpAny_builtinsFor (m := X.mg) (by rw [I1.ok.glob]; exact glob3) e1 e2 (keep3 _ _ e4 (I1.bk _ _ e5)) e6 e7 e8 ?_
    refine ⟨s1.heap.objs.size + 1, fp, [s1.heap.objs.size + 1, s1.heap.objs.size], its.size, _, St, Mid, pz, (fun i y => ∃ t : Tok, y = .int i t), rfl, W, ?_, ?_, ?_, lim2.extBut hx hcP, ?_, ?_, ?_⟩
    · rintro i vals ⟨t, x, _, e⟩
      exact ⟨_, _, e⟩
    · refine (W X.A hr.hd).frame _ _ _ hst2 fun b hb u e => hx b u (fun z => ?_) e
      rcases hfp b hb with q | q | q
      · exact nne2 hPlt (.inl (z.symm.trans q))
      · exact nne2 hPlt (.inr (z.symm.trans q))
      · have e9 : a = P := q.symm.trans z
        rcases hL with ⟨o, ho, hc9, _⟩ | ⟨o, ho, hc9, _⟩ <;> (rw [e9, hPs] at ho; cases ho; cases hc9)
    · intro b hb
      exact nlt3 (nlt2 (by rcases hL with ⟨o, ho, _⟩ | ⟨o, ho, _⟩ <;> exact Heap.lt_size ho) (hfp b hb)) hz2 hsz
    · intro z
      simp only [List.mem_cons, List.not_mem_nil, or_false] at z
      exact nne2 hcl z
    · intro href hhref
      refine ⟨fun A' E' i va vb s₂ m₂ hA hPv hn hma hmb hk => ?_, fun A' E' i va vb s₂ m₂ hA hPv hp hn hma hmb hk => ?_⟩
      · obtain ⟨t, x, hx9, e9⟩ := hPv
        obtain ⟨e10, e11⟩ : va = .int i t ∧ vb = x := by simpa using congrArg Array.toList e9
        subst e10 e11
        simp only [List.forIn_cons, List.forIn_nil, if_true]
        refine wpAny_bind (wpAny_bind (wpAny_mono (htest _ A' E' i vb s₂ m₂ rfl rfl hx9 hn hmb fun b o hb e => ?_) (fun ok s3 r => wpAny_pure (wpAny_pure r)) fun _ _ e => e))
        have hlt9 := Heap.lt_size e
        refine hk b (List.mem_range.mpr (Nat.lt_of_lt_of_le (nlt2 hlt9 (.inr (.inr rfl))) (Nat.le_trans (Nat.le_of_eq hz2.symm) hsz))) (fun z => ?_) o (hhref b o (keep3 b o hb e))
        simp only [List.mem_cons, List.not_mem_nil, or_false] at z
        exact nne2 hlt9 z
      · obtain ⟨t, x, hx9, e9⟩ := hPv
        obtain ⟨e10, e11⟩ : va = .int i t ∧ vb = x := by simpa using congrArg Array.toList e9
        subst e10 e11
        exact wpAny_Name (wpAny_loadName_local S.kind S.la hn hma ⟨⟨t, rfl⟩, GxR.keeps_refl _⟩) hda
    · intro g h5 tk5 gs hgb hag hsz5 hk5 W5 hat
      have en : its.size = vs.length := by rw [rv.length]; simp
      rw [en] at W5 hat
      refine hQ g _ ⟨_, _, _, _, W5.in4_1, hat, hat.1.typeIs, fun s' hm => ?_⟩
      obtain ⟨more, em⟩ := hmore
      have nwr : ∀ b u, s1.heap.get? b = some u → b ∉ h3.objs.size :: [s1.heap.objs.size + 1, s1.heap.objs.size] := fun b u e hb => by
        have hl := Heap.lt_size e
        rcases List.mem_cons.mp hb with z | z
        · rw [z] at hl
          exact Nat.lt_irrefl _ (Nat.lt_of_lt_of_le hl (Nat.le_trans (Nat.le_trans (Nat.le_add_right _ 2) (Nat.le_of_eq hz2.symm)) hsz))
        · simp only [List.mem_cons, List.not_mem_nil, or_false] at z
          exact nne2 hl z
      have J := GxR.inv_tab (more := more) (h' := s'.heap) (g' := s'.gens) (d' := s'.drawn) (t' := s'.toks) I1 hP (fun b u hb e => hm.heap b u (nwr b u e) (hk5 b u (keep3 b u hb e)))
        (by rw [← em]; exact hm.heap P _ (nwr P _ hPs) (hk5 P _ hP3)) (AllBare.movedS (I1.bare.push hgb) hm)
      rw [GxR.sh_eta s1 s' hm.os] at J
      exact ⟨upd H1 P (.tbl (ps ++ more)), ⟨⟨ps ++ more, upd_same, by rw [← em]; exact ht3⟩, fun b hb => upd_ne hb⟩, J⟩
  cases hf : codeAmong gpos ps.toList with
  | none =>
    refine wpAny_genexprCodeX hcode (cd.code hP2 ht) (cd.tab hP2) hf fun c' h' tk hx hge hlt hco' _ htab' _ => ?_
    obtain ⟨o1, vs1, f1, tf, fl, tg, inF, tx, tt, op, _, _, _, _, _, _, _, _, _, htr, _⟩ := hco'
    exact cont _ h' tk _ hx (Nat.le_trans hge (Nat.le_of_lt hlt)) htab'.2 ⟨_, rfl⟩ htr
  | some cv =>
    refine wpAny_genexprCode_hit hcode (cd.code hP2 ht) hf ?_
    exact cont cv h2 s1.toks ps (Heap.ExtBut.refl _ _) (Nat.le_refl _) hP2 ⟨#[], by simp⟩ ht
/-- next(e for i, x in enumerate(s) if test, d): the place of the first item that passes, or d -/
def fstP (pz : Nat → Bool) (n : Nat) : Option Nat := (passing pz n 0).head?
def tNextE (X : Cx) (scope : Scope) (xb : Str) (test : Expr) (P : Addr) (dv : V) (te : TE) : TE := fun σ H Q => te σ H fun v H1 => ∃ (a : Addr) (vs : List V) (pz : Nat → Bool), v = .ref a ∧ (SqL X.K H1 a vs ∨ SqT X.K H1 a vs) ∧ GxR.TabG H1 P ∧
  (∀ (pins : List (Addr × Obj)) (s1 : Shared) (its : Array Value), Inv X pins σ H1 s1 → Vals vs its.toList → TestAt X scope xb test P s1 its pz) ∧
  ∀ H2, GxR.Tabbed P H1 H2 → Q (match fstP pz vs.length with
    | some i => .int (i : Nat)
    | none => dv) H2
theorem pe_nextE {c P : Addr} {src test d : Expr} {xa xb : Str} {pa pb pt pe pcall pen gpos pn pos : Pos} {kt : Nat} {scope : Scope} {te : TE} {dv : V} {k : Nat}
    (hr : Room k X.A) (hgn : Gl X "next") (hmn : X.mg "next" = none) (TB : GxR.TabB X.base X.mg c P) (hcode : X.env.code = .ref c) (S : GenS2 X.env scope xa xb) (hg : Gl X "enumerate") (hm : X.mg "enumerate" = none) (hi : PE X src te)
    (hst : starEach [src] X.env = (false, eval src X.env) :: starEach [] X.env) (hda : (xa == ("__debug__" : Str)) = false) (hs : ∀ v, genFold (.Call (.Name "enumerate" pen) [src] [] pcall) X.env v = pure v)
    (hd : ∀ (s : Shared) (Q : Value → Shared → Prop), (∀ u tk, RelV dv u → s.toks ≤ tk → Q u { s with toks := tk }) → wpAny (model X.prog X.w) X.A (eval d X.env) Q X.xe s)
    (he : starEach [.GeneratorExp (.Name xa pe) [⟨.Tuple [.Name xa pa, .Name xb pb] kt pt, .Call (.Name "enumerate" pen) [src] [] pcall, [test], 0⟩] scope gpos, d] X.env =
      (false, eval (.GeneratorExp (.Name xa pe) [⟨.Tuple [.Name xa pa, .Name xb pb] kt pt, .Call (.Name "enumerate" pen) [src] [] pcall, [test], 0⟩] scope gpos) X.env) :: starEach [d] X.env)
    (he2 : starEach [d] X.env = (false, eval d X.env) :: starEach [] X.env) :
    PE X (.Call (.Name "next" pn) [.GeneratorExp (.Name xa pe) [⟨.Tuple [.Name xa pa, .Name xb pb] kt pt, .Call (.Name "enumerate" pen) [src] [] pcall, [test], 0⟩] scope gpos, d] [] pos) (tNextE X scope xb test P dv te) := by
  refine ⟨fun pins s σ H Q I h => ?_⟩
  refine wpAny_Call_Name_kw (ld_blt I hgn hmn (by decide +kernel : bootBuiltins "next" = some (.builtin "next")) ?_)
  refine PyProof.Rows.callWith_builtin1 ?_ he (by rw [he2]; rfl)
  rw [he, he2]
  show wpAny _ _ (spliced ((false, eval (.GeneratorExp (.Name xa pe) [⟨.Tuple [.Name xa pa, .Name xb pb] kt pt, .Call (.Name "enumerate" pen) [src] [] pcall, [test], 0⟩] scope gpos) X.env) :: (false, eval d X.env) :: backTo pos (starEach [] X.env))) _ _ s
  refine Calls.spliced_cons (gen_enum (c := c) (P := P) (te := te) hr TB hcode S hg hm hi hst hda hs I h fun v H1 ⟨a, vs, pz, ev, hsq, hT, hpz, hq⟩ => ⟨a, vs, ev, hsq, hT, fun s1 its I1 rv => ⟨pz, hpz pins s1 its I1 rv, fun g s5 hG => ?_⟩⟩)
  obtain ⟨fp, wr, G, St, W, hst5, hty, hI⟩ := hG
  refine Calls.spliced_cons (hd s5 _ fun u tk ru htk => Calls.spliced_nil ?_)
  have hst6 : St 0 { s5 with toks := tk } := W.frame 0 s5 s5.heap tk hst5 htk fun _ _ _ e => e
  have mv6 : Moved wr G s5 { s5 with toks := tk } := ⟨fun _ _ _ e => e, W.grefl _, rfl, rfl, htk⟩
  refine Calls.call_function_entry (by decide +kernel) (by decide +kernel) PySem.W.kdk_entry_next (PySem.W.kdk_args_next2 _ _) ?_
  unfold Builtin.«next»
  refine wpAny_bind (m := someArgs "next" 1 2 _) (wpAny_of_eq (a := [Value.ref g, u]) (by first | rfl | kernel_rfl!) ?_)
  dsimp only
  refine wpAny_bind (wpAny_specialOf (name := Str.ofString "__next__") (T := "generator") hty slot_gen_next.lookup ?_)
  refine wpAny_ite_split (fun hab => absurd hab (by decide)) (fun _ => ?_)
  cases hf : passing pz vs.length 0 with
  | nil =>
    rw [hf] at W
    refine wpAny_bind (W.done _ _ _ hst6 fun s' hm => ?_)
    obtain ⟨H2, hT2, J⟩ := hI s' (mv6.trans W.gtrans hm)
    refine wpAny_pure ⟨_, rfl, dv, H2, J, ru, ?_⟩
    have := hq H2 hT2
    unfold fstP at this
    rw [hf] at this
    exact this
  | cons i r =>
    rw [hf] at W
    refine wpAny_bind (W.item 0 _ _ _ (by simp) hst6 fun y s' hy _ hm => ?_)
    obtain ⟨i', hi', t, rfl⟩ := hy
    have ei : i = i' := by simpa using hi'
    subst ei
    obtain ⟨H2, hT2, J⟩ := hI s' (mv6.trans W.gtrans hm)
    refine wpAny_pure ⟨_, rfl, .int (i : Nat), H2, J, ⟨t, rfl⟩, ?_⟩
    have := hq H2 hT2
    unfold fstP at this
    rw [hf] at this
    exact this
end
end DL
set_option Elab.async false
set_option linter.all false
set_option maxRecDepth 100000
set_option maxHeartbeats 4000000
/-! D6m: the two tests of next(..) and the rules by contents. -/
namespace DL
open PySem PySem.Spec PyProof.Rows L2 SlX

section
variable {X : Cx} {pins : List (Addr × Obj)} {σ : L2.St} {H : Hp} {s : Shared}
theorem vals_get {xs : List V} {us : List Value} (r : Vals xs us) {i : Nat} {u : Value} (h : us[i]? = some u) : ∃ x, xs[i]? = some x ∧ RelV x u := by
  induction r generalizing i with
  | nil => simp at h
  | cons a t ih =>
    cases i with
    | zero =>
      have e : _ = u := Option.some.inj (by simpa using h)
      subst e
      exact ⟨_, rfl, a⟩
    | succ i => exact ih (by simpa using h)
/-- y in x, y a captured name that holds an int, x a tuple of ints -/
theorem test_in {scope : Scope} {xb y : Str} {p1 p2 p3 : Pos} {P : Addr} {H1 : Hp} {s1 : Shared} {its : Array Value} {vs : List V} {nss : List (List Int)} {j : Nat} {k : Int} (I : Inv X pins σ H1 s1) (rv : Vals vs its.toList)
    (hv : ∀ (i : Nat) (v : V), vs[i]? = some v → ∃ (b : Addr) (ns : List Int), nss[i]? = some ns ∧ v = V.ref b ∧ SqT X.K H1 b (ns.map V.int)) (hP : ∃ ps, H1 P = some (.tbl ps)) (hN : X.N[j]? = some y) (hj : σ[j]? = some (some (.int k)))
    (hc : X.env.scope.names.lookup y = some .cell) (kd : scope.kind = .function) (hf : scope.names.lookup y = some .free) (hb : scope.names.lookup xb = some .local)
    (hclo : ∀ cells : List (Str × Addr), (cloFrom cells scope.names []).lookup y = some ((cells.lookup y).getD 0))
    (hdy : (y == ("__debug__" : Str)) = false := by decide) (hdb : (xb == ("__debug__" : Str)) = false := by decide) (hcy : (y == ("__classdict__" : Str)) = false := by decide) :
    TestAt X scope xb (.Compare (.Name y p1) [.In] [.Name xb p2] p3) P s1 its fun i => (nss[i]?.map fun ns => decide (k ∈ ns)).getD false := by
  intro cenv A' E' i u s₂ m₂ hsc hcl hx hn hm hk
  obtain ⟨ps, hP⟩ := hP
  have hPs : s1.heap.get? P = some { cls := .none, data := .fields ps } := I.hok P _ hP
  obtain ⟨m, _, hl⟩ := I.loc
  obtain ⟨w, rw', lk⟩ := hl j y (.int k) hN hj (.inr (.inl hc))
  obtain ⟨t, rfl⟩ := rw'
  have lk' : ∃ c, X.env.cells.lookup y = some c ∧ s1.heap.IsCell c (some (.int k t)) := by
    rcases lk with ⟨q, _⟩ | ⟨_, q⟩
    · have q' : X.env.scope.names.lookup y = some .local := q
      rw [hc] at q'; cases q'
    · exact q
  obtain ⟨c, ec, o, ho, od⟩ := lk'
  have ncP : c ≠ P := fun e => by rw [e, hPs] at ho; cases ho; cases od
  refine wpAny_isTrue_Compare1 ?_
  refine wpAny_Name (wpAny_loadName_free (c := c) (v := .int k t) (by rw [hsc]; exact kd) (show cenv.scope.names.lookup y = some .free by rw [hsc]; exact hf) (by rw [hcl, hclo, ec]; rfl) ⟨o, hk c o ncP ho, od⟩ ?_ hcy) hdy
  refine wpAny_Name (wpAny_loadName_local (by rw [hsc]; exact kd) (show cenv.scope.names.lookup xb = some .local by rw [hsc]; exact hb) hn hm ?_) hdb
  have hx' : its.toList[i]? = some u := by simpa using hx
  obtain ⟨v, ev, ru⟩ := vals_get rv hx'
  obtain ⟨b, ns, en, rfl, sq⟩ := hv i v ev
  cases (show u = Value.ref b from ru)
  obtain ⟨zs, rz, pt, hz⟩ := I.tuple sq
  have pt' : s₂.heap.IsTuple b zs.toArray := by
    obtain ⟨o2, h2, cl2, r2⟩ := (show s1.heap.IsTuple b zs.toArray from pt)
    exact ⟨o2, hk b o2 (fun e => by rw [e, hPs] at h2; cases h2; cases cl2) h2, cl2, r2⟩
  have fs : (ns.map V.int).all flatV = true := by rw [List.all_map]; exact List.all_eq_true.mpr fun _ _ => rfl
  refine SeqAt.in_tupleAt (eqU (.int k)) pt' (fun z hz' => mem_eqAt (x := .int k) ⟨t, rfl⟩ rfl rz fs z (by simpa using hz')) (wpAny_truthy_bool ⟨?_, GxR.keeps_refl _⟩)
  rw [show zs.toArray.any (eqU (.int k)) = zs.any (eqU (.int k)) by simp, any_eqU rz fs]
  simp only [en, Option.map_some, Option.getD_some, List.any_map]
  rw [Bool.eq_iff_iff, List.any_eq_true, decide_eq_true_eq]
  constructor
  · rintro ⟨z, hz', e⟩
    have e' : z = k := by simpa [eqV] using e
    rw [← e']; exact hz'
  · intro hz'
    exact ⟨k, hz', by simp [eqV]⟩
/-- not x, x a bool -/
theorem test_not {scope : Scope} {xb : Str} {p1 p2 : Pos} {P : Addr} {s1 : Shared} {its : Array Value} {bs : List Bool} (rv : Vals (bs.map V.bl) its.toList) (kd : scope.kind = .function) (hb : scope.names.lookup xb = some .local)
    (hdb : (xb == ("__debug__" : Str)) = false := by decide) : TestAt X scope xb (.UnaryOp .Not (.Name xb p1) p2) P s1 its fun i => (bs[i]?.map fun b => !b).getD false := by
  intro cenv A' E' i u s₂ m₂ hsc hcl hx hn hm hk
  have hx' : its.toList[i]? = some u := by simpa using hx
  obtain ⟨v, ev, ru⟩ := vals_get rv hx'
  rw [List.getElem?_map] at ev
  cases eb : bs[i]? with
  | none => rw [eb] at ev; cases ev
  | some b =>
    rw [eb] at ev
    have e2 : V.bl b = v := by simpa using ev
    subst e2
    cases (show u = Value.bool b from ru)
    refine wpAny_isTrue_Not ?_
    refine isTrue_plain (wpAny_Name (wpAny_loadName_local (by rw [hsc]; exact kd) (show cenv.scope.names.lookup xb = some .local by rw [hsc]; exact hb) hn hm ?_) hdb) rfl
    exact wpAny_truthy_bool ⟨by simp [eb], GxR.keeps_refl _⟩
end
/-! ### the place as findIdx? -/
theorem find_range {α : Type} (p : α → Bool) : ∀ (xs : List α) (q : Nat → Bool) (k : Nat), (∀ i, q (k + i) = (xs[i]?.map p).getD false) → ((List.range' k xs.length).filter q).head? = (xs.findIdx? p).map (k + ·)
  | [], _, _, _ => rfl
  | x :: xs, q, k, h => by
    have h0 : q k = p x := by simpa using h 0
    have ih := find_range p xs q (k + 1) fun i => by
      have := h (i + 1)
      rw [show k + 1 + i = k + (i + 1) by omega]
      simpa using this
    rw [List.length_cons, List.range'_succ, List.filter_cons, h0, List.findIdx?_cons]
    cases hp : p x with
    | true => simp
    | false =>
      simp only [Bool.false_eq_true, if_false]
      rw [ih]
      cases xs.findIdx? p with
      | none => rfl
      | some i =>
        simp only [Option.map_some, Option.some.injEq]
        omega
theorem fstP_find {α : Type} (p : α → Bool) (xs : List α) : fstP (fun i => (xs[i]?.map p).getD false) xs.length = xs.findIdx? p := by
  unfold fstP passing
  rw [List.drop_zero, List.range_eq_range', find_range p xs _ 0 fun i => by simp]
  cases xs.findIdx? p <;> simp

/-! ### by contents -/
/-- the code object's table in the store -/
def hasT (P : Addr) (m : Mu) : Prop := ∃ n : Nat, m[n]? = some (MO.tbl P)
theorem Rl.tab {K : PySem.W.Frag} {F G H H2 : Hp} {E : Eta} {m : Mu} {P : Addr} (r : Rl K F G H E m) (h : hasT P m) : GxR.TabG H P ∧ ∀ H2, GxR.Tabbed P H H2 → Rl K F G H2 E m := by
  obtain ⟨n, hn⟩ := h
  obtain ⟨q, hq, e1, e2, ps, e3, t⟩ := r.mo hn
  refine ⟨⟨ps, e3, t⟩, fun H2 ⟨⟨ps2, a, b⟩, hb⟩ => ?_⟩
  have := r.write (mo := .tbl P) hq (H' := H2) (fun b h1 h2 => hb b (by rw [← e1]; exact h1)) ⟨e1, e2, ps2, a, b⟩
  rwa [show m.set n (MO.tbl P) = m from by
    obtain ⟨hlt, e⟩ := List.getElem?_eq_some_iff.mp hn
    rw [← e]
    exact List.set_getElem_self hlt] at this
def dNextIn (P : Addr) (j : Nat) (te : TDE) : TDE := fun δ m R => te δ m fun x m1 => ∃ (nss : List (List Int)) (k : Int), seqOf x m1 = some (nss.map fun ns => .tup (ns.map .int)) ∧ δ[j]? = some (some (.int k)) ∧ hasT P m1 ∧
  R (.int ((nss.findIdx? fun ns => decide (k ∈ ns)).getD 0 : Nat)) m1
section
variable {X : Cx}
theorem de_nextIn (j : Nat) {c P : Addr} {src : Expr} {xa xb y : Str} {pa pb pt pe pcall pen gpos pn pos p1 p2 p3 pd : Pos} {kt : Nat} {kd : _} {scope : Scope} {te : TDE} {k : Nat}
    (hr : Room k X.A) (hmn : X.mg "next" = none) (TB : GxR.TabB X.base X.mg c P) (hcode : X.env.code = .ref c) (S : GenS2 X.env scope xa xb) (hm : X.mg "enumerate" = none) (hi : DE X src te)
    (hf : scope.names.lookup y = some .free) (hclo : ∀ cells : List (Str × Addr), (cloFrom cells scope.names []).lookup y = some ((cells.lookup y).getD 0)) (hcell : X.env.scope.names.lookup y = some .cell)
    (hN : X.N[j]? = some y := by rfl) (hg : Gl X "enumerate" := by rfl) (hgn : Gl X "next" := by rfl)
    (hst : starEach [src] X.env = (false, eval src X.env) :: starEach [] X.env := by rfl) (hda : (xa == ("__debug__" : Str)) = false := by decide) (hdy : (y == ("__debug__" : Str)) = false := by decide) (hdb : (xb == ("__debug__" : Str)) = false := by decide) (hcy : (y == ("__classdict__" : Str)) = false := by decide)
    (hs : ∀ v, genFold (.Call (.Name "enumerate" pen) [src] [] pcall) X.env v = pure v := by intro _; rfl)
    (he : starEach [.GeneratorExp (.Name xa pe) [⟨.Tuple [.Name xa pa, .Name xb pb] kt pt, .Call (.Name "enumerate" pen) [src] [] pcall, [.Compare (.Name y p1) [.In] [.Name xb p2] p3], 0⟩] scope gpos, .Constant (.int 0) kd pd] X.env =
      (false, eval (.GeneratorExp (.Name xa pe) [⟨.Tuple [.Name xa pa, .Name xb pb] kt pt, .Call (.Name "enumerate" pen) [src] [] pcall, [.Compare (.Name y p1) [.In] [.Name xb p2] p3], 0⟩] scope gpos) X.env) :: starEach [.Constant (.int 0) kd pd] X.env := by rfl)
    (he2 : starEach [.Constant (.int 0) kd pd] X.env = (false, eval (.Constant (.int 0) kd pd) X.env) :: starEach [] X.env := by rfl) :
    DE X (.Call (.Name "next" pn) [.GeneratorExp (.Name xa pe) [⟨.Tuple [.Name xa pa, .Name xb pb] kt pt, .Call (.Name "enumerate" pen) [src] [] pcall, [.Compare (.Name y p1) [.In] [.Name xb p2] p3], 0⟩] scope gpos, .Constant (.int 0) kd pd] [] pos) (dNextIn P j te) :=
  ⟨PE.imp (pe_nextE (dv := .int 0) hr hgn hmn TB hcode S hg hm hi.pe hst hda hs (fun s Q q => wpAny_Constant_int (q _ _ ⟨_, rfl⟩ (Nat.le_succ _))) he he2) fun σ H Q ⟨F, G, E, m, δ, R, rl, rs, h, kk⟩ => ⟨F, G, E, m, δ, _, rl, rs, h, fun x m1 F1 E1 H1 v f1 e1 rl1 rp1 ⟨nss, k, h1, h2, h3, h4⟩ => by
    obtain ⟨a, vs, rfl, sq, rv⟩ := rl1.seq_ok rp1 h1
    obtain ⟨hT, hT2⟩ := rl1.tab (H2 := H1) h3
    have ln : vs.length = nss.length := by rw [← rv.length]; simp
    obtain ⟨v0, ev0, r0⟩ := rs.2 j _ h2
    cases r0
    refine ⟨a, vs, fun i => (nss[i]?.map fun ns => decide (k ∈ ns)).getD false, rfl, sq, hT, fun pins s1 its I1 rv1 => ?_, fun H2 hT' => ?_⟩
    · refine test_in I1 rv1 (fun i v hv => ?_) (let ⟨ps, q, _⟩ := hT; ⟨ps, q⟩) hN ev0 hcell S.kind hf S.lb hclo hdy hdb hcy
      obtain ⟨d, hd, rd⟩ := rv.getV hv
      rw [List.getElem?_map] at hd
      cases en : nss[i]? with
      | none => rw [en] at hd; cases hd
      | some ns =>
        rw [en] at hd
        have e2 : D.tup (ns.map .int) = d := by simpa using hd
        subst e2
        obtain ⟨b, ws, rfl, sq2, rw2⟩ := rl1.tup_ok rd
        rw [rps_ints rw2] at sq2
        exact ⟨b, ns, rfl, rfl, sq2⟩
    · rw [ln, fstP_find]
      have := (kk.on f1 e1) _ m1 F1 E1 H2 (.int ((nss.findIdx? fun ns => decide (k ∈ ns)).getD 0 : Nat)) FSub.refl ESub.refl (hT2 H2 hT') (.int _) h4
      cases hfi : nss.findIdx? fun ns => decide (k ∈ ns) with
      | none => rw [hfi] at this; exact this
      | some i => rw [hfi] at this; exact this⟩⟩
def dNextNot (P : Addr) (te : TDE) : TDE := fun δ m R => te δ m fun x m1 => ∃ bs : List Bool, seqOf x m1 = some (bs.map .bl) ∧ hasT P m1 ∧ R (match bs.findIdx? fun b => !b with
    | some i => .int (i : Nat)
    | none => .non) m1
theorem bls_rps {K : PySem.W.Frag} {F : Hp} {E : Eta} : ∀ {bs : List Bool} {vs : List V}, Rps K F E (bs.map .bl) vs → vs = bs.map V.bl
  | [], _, .nil => rfl
  | b :: bs, _, .cons r t => by
    cases r
    rw [bls_rps t]
    rfl
theorem de_nextNot {c P : Addr} {src : Expr} {xa xb : Str} {pa pb pt pe pcall pen gpos pn pos p1 p2 pd : Pos} {kt : Nat} {kd : _} {scope : Scope} {te : TDE} {k : Nat}
    (hr : Room k X.A) (hmn : X.mg "next" = none) (TB : GxR.TabB X.base X.mg c P) (hcode : X.env.code = .ref c) (S : GenS2 X.env scope xa xb) (hm : X.mg "enumerate" = none) (hi : DE X src te)
    (hg : Gl X "enumerate" := by rfl) (hgn : Gl X "next" := by rfl)
    (hst : starEach [src] X.env = (false, eval src X.env) :: starEach [] X.env := by rfl) (hda : (xa == ("__debug__" : Str)) = false := by decide) (hdb : (xb == ("__debug__" : Str)) = false := by decide)
    (hs : ∀ v, genFold (.Call (.Name "enumerate" pen) [src] [] pcall) X.env v = pure v := by intro _; rfl)
    (he : starEach [.GeneratorExp (.Name xa pe) [⟨.Tuple [.Name xa pa, .Name xb pb] kt pt, .Call (.Name "enumerate" pen) [src] [] pcall, [.UnaryOp .Not (.Name xb p1) p2], 0⟩] scope gpos, .Constant .none kd pd] X.env =
      (false, eval (.GeneratorExp (.Name xa pe) [⟨.Tuple [.Name xa pa, .Name xb pb] kt pt, .Call (.Name "enumerate" pen) [src] [] pcall, [.UnaryOp .Not (.Name xb p1) p2], 0⟩] scope gpos) X.env) :: starEach [.Constant .none kd pd] X.env := by rfl)
    (he2 : starEach [.Constant .none kd pd] X.env = (false, eval (.Constant .none kd pd) X.env) :: starEach [] X.env := by rfl) :
    DE X (.Call (.Name "next" pn) [.GeneratorExp (.Name xa pe) [⟨.Tuple [.Name xa pa, .Name xb pb] kt pt, .Call (.Name "enumerate" pen) [src] [] pcall, [.UnaryOp .Not (.Name xb p1) p2], 0⟩] scope gpos, .Constant .none kd pd] [] pos) (dNextNot P te) :=
  ⟨PE.imp (pe_nextE (dv := .non) hr hgn hmn TB hcode S hg hm hi.pe hst hda hs (fun s Q q => PyProof.Rows.Constant_none (q .none s.toks rfl (Nat.le_refl _))) he he2) fun σ H Q ⟨F, G, E, m, δ, R, rl, rs, h, kk⟩ => ⟨F, G, E, m, δ, _, rl, rs, h, fun x m1 F1 E1 H1 v f1 e1 rl1 rp1 ⟨bs, h1, h3, h4⟩ => by
    obtain ⟨a, vs, rfl, sq, rv⟩ := rl1.seq_ok rp1 h1
    obtain ⟨hT, hT2⟩ := rl1.tab (H2 := H1) h3
    have ev := bls_rps rv
    subst ev
    refine ⟨a, bs.map V.bl, fun i => (bs[i]?.map fun b => !b).getD false, rfl, sq, hT, fun pins s1 its I1 rv1 => test_not rv1 S.kind S.lb hdb, fun H2 hT' => ?_⟩
    rw [List.length_map, fstP_find]
    cases hfi : bs.findIdx? fun b => !b with
    | none => rw [hfi] at h4; exact (kk.on f1 e1) .non m1 F1 E1 H2 _ FSub.refl ESub.refl (hT2 H2 hT') .non h4
    | some i => rw [hfi] at h4; exact (kk.on f1 e1) (.int (i : Nat)) m1 F1 E1 H2 _ FSub.refl ESub.refl (hT2 H2 hT') (.int _) h4⟩⟩
end
/-- a def's own code object -/
def codeOf (K : PySem.W.Frag) (f : Addr) : Option Value := match K.lookup f with
  | some ⟨_, _, .func fd, _⟩ => some fd.code
  | _ => none
section
variable {P : Program} {w : World} {K : PySem.W.Frag} {mg : Str → Option Value} {base : Heap} {k : Nat} {f : Addr} {spec : DRs}
/-- a def by its body, its code object known -/
theorem fn_bodyC {x qual : Str} {params : Arguments} {body : List Stmt} {scope : Scope} {dvs : List V} {kws : List (Str × V)} {fd : FuncData} {N ps : List Str} {cv : Value} (F : FunD K x qual params body scope dvs kws f fd) (S : FnScope N ps scope) (hco : codeOf K f = some cv) (hlen : ∀ ds m R, spec ds m R → ds.length = ps.length)
    (hbody : ∀ (A : Around) (outer : List Env) (s : Shared) (H : Hp) (E : XK), Room k (A.deeper (envOfC qual scope s.heap.objs.size f cv)) →
      ∃ t, DSs (cxOf CX0 P w K mg base N qual scope f cv A outer s H E).nox body t ∧ ∀ ds m R, spec ds m R → t (endsD m R) (startD N ds) m) : FnOk P w K mg base CX0 (k + 1) f fd ps (spD K spec) := by
  obtain ⟨oc, od, dV, kV, doc, pm, an, cdv, ct, osl, rfl, lk, hcd, _, _⟩ := F.ex
  have e : cdv = cv := by
    unfold codeOf at hco
    rw [lk] at hco
    exact Option.some.inj hco
  subst e
  refine fn_of lk hcd S (fun vs H Q E ⟨F1, G, E', m, ds, R, rl, rs, h, c⟩ => by rw [← rs.length]; exact hlen ds m R h) fun A outer s H vs Q E hr ⟨F1, G, E', m, ds, R, rl, rs, h, c⟩ => ?_
  obtain ⟨t, ht, hq⟩ := hbody A outer s H E hr
  refine ⟨_, PSs.nox ht.ps, F1, G, E', m, startD N ds, endsD m R, rl, start_ok N rs, hq ds m R h, ⟨fun δ m1 F2 E2 H2 σ f2 e2 rl2 rs2 h2 => ?_, fun d m1 F2 E2 H2 v f2 e2 rl2 rp2 h2 => ?_, fun _ _ _ _ _ _ _ _ _ _ z => z.elim, fun _ _ _ _ _ _ _ _ _ _ z => z.elim⟩⟩
  · obtain ⟨d3, m3, F3, E3, f3, e3, rl3, rp3, h3⟩ := Fin.ok rl rl2 f2 e2 .non h2
    exact c d3 m3 F3 E3 H2 .non (f2.trans f3) e3 rl3 rp3 h3
  · obtain ⟨d3, m3, F3, E3, f3, e3, rl3, rp3, h3⟩ := Fin.ok rl rl2 f2 e2 rp2 h2
    exact c d3 m3 F3 E3 H2 v (f2.trans f3) e3 rl3 rp3 h3
end
end DL
set_option Elab.async false
set_option linter.all false
set_option maxRecDepth 100000
set_option maxHeartbeats 4000000
/-! D6n: repr of nested data (no repr is under way); defs that need this. -/
namespace DL
open PySem PySem.Spec PyProof.Rows L2 SlX

/-- where no repr is under way: a def at f -/
structure FnOkG (P : Program) (w : World) (K : PySem.W.Frag) (mg : Str → Option Value) (base : Heap) (k : Nat) (f : Addr) (fd : FuncData) (ps : List Str) (spec : DRs) : Prop where
  run : ∀ (A : Around) (outer : List Env) (s : Shared) (H : Hp) (args : Args) (us : List Value) (vs : List V) (Q : VK), Room k A → A.guards = some [] → Env0 P w K mg base A outer s H → BindsTo s fd args (ps.zip us) → Vals vs us → liftC K spec vs H Q →
    codeAny (model P w) A (.call (.ref f) args) (CR CX0 outer P w H s Q E0) s
section
variable {P : Program} {w : World} {K : PySem.W.Frag} {mg : Str → Option Value} {base : Heap} {k : Nat} {f : Addr} {spec : DRs}
/-- a def by its body, no repr under way -/
theorem fn_bodyG {x qual : Str} {params : Arguments} {body : List Stmt} {scope : Scope} {dvs : List V} {kws : List (Str × V)} {fd : FuncData} {N ps : List Str} (F : FunD K x qual params body scope dvs kws f fd) (S : FnScope N ps scope) (hlen : ∀ ds m R, spec ds m R → ds.length = ps.length)
    (hbody : ∀ (cdv : Value) (A : Around) (outer : List Env) (s : Shared) (H : Hp), Room k (A.deeper (envOfC qual scope s.heap.objs.size f cdv)) → (A.deeper (envOfC qual scope s.heap.objs.size f cdv)).guards = some [] →
      ∃ t, DSs (cxOf CX0 P w K mg base N qual scope f cdv A outer s H E0).nox body t ∧ ∀ ds m R, spec ds m R → t (endsD m R) (startD N ds) m) : FnOkG P w K mg base (k + 1) f fd ps spec := by
  obtain ⟨oc, od, dV, kV, doc, pm, an, cdv, ct, osl, rfl, lk, hcd, _, _⟩ := F.ex
  refine ⟨fun A outer s H args us vs Q hr hgu e0 hb r hsp => ?_⟩
  obtain ⟨F1, G, E', m, ds, R, rl, rs, h, c⟩ := hsp
  have hl : vs.length = ps.length := by rw [← rs.length]; exact hlen ds m R h
  have KX : K.In s.heap := e0.mod.kin.keeps fun b o e => (e0.bs b o e).1
  have lim : s.heap.NoLimit := e0.mod.nolimit.keeps fun b o e => (e0.bs b o e).1
  have hkind : ∀ y ∈ ps.zip us, scope.names.lookup y.1 = some .local ∨ (scope.names.lookup y.1 = some .cell ∧ ((cellsFrom (s.heap.objs.size + 1) scope.names []).lookup y.1).isSome = true) := fun ⟨n, v⟩ hy => by
    rcases S.par n (List.of_mem_zip hy).1 with q | q
    · exact .inl q
    · exact .inr ⟨q, PySem.W.cellsFrom_some _ _ _ (.inl q)⟩
  refine codeAny_call_function hr.depth (KX _ _ lk) rfl S.co S.gen rfl (PySem.W.codeRec_of KX hcd) (hb _ _ _ _ ?_)
  refine wpAny_newFunctionEnv_cells S.kind hkind fun env he s1 xx => ?_
  subst he
  refine ⟨lim.keeps xx.toInCall.keep, codeAny_func ?_⟩
  obtain ⟨t, ht, hq⟩ := hbody cdv A outer s H (hr.deeper _) (by first | exact hgu | (unfold Around.deeper; exact hgu) | (unfold Around.deeper Around.under; simp [hgu, pushGuards]))
  have ht' := PSs.nox ht.ps
  have I : Inv (cxOf CX0 P w K mg base N qual scope f cdv A outer s H E0) [] (start N vs) H s1 := inv_start S hr.hd e0 hl r xx
  refine wpAny_mono (ht'.run [] s1 (start N vs) H { nx := fun _ H' => Q .non H', rt := Q } I ⟨F1, G, E', m, startD N ds, endsD m R, rl, start_ok N rs, hq ds m R h, ⟨fun δ m1 F2 E2 H2 σ f2 e2 rl2 rs2 h2 => ?_, fun d m1 F2 E2 H2 v f2 e2 rl2 rp2 h2 => ?_, fun _ _ _ _ _ _ _ _ _ _ z => z.elim, fun _ _ _ _ _ _ _ _ _ _ z => z.elim⟩⟩) (fun fl s' hs => ?_) fun e s' hs => hs
  · obtain ⟨d3, m3, F3, E3, f3, e3, rl3, rp3, h3⟩ := Fin.ok rl rl2 f2 e2 .non h2
    exact c d3 m3 F3 E3 H2 .non (f2.trans f3) e3 rl3 rp3 h3
  · obtain ⟨d3, m3, F3, E3, f3, e3, rl3, rp3, h3⟩ := Fin.ok rl rl2 f2 e2 rp2 h2
    exact c d3 m3 F3 E3 H2 v (f2.trans f3) e3 rl3 rp3 h3
  have fin : ∀ {σ' : L2.St} {H' : Hp} {v : V} {u : Value}, Inv (cxOf CX0 P w K mg base N qual scope f cdv A outer s H E0) [] σ' H' s' → RelV v u → Q v H' → CE outer P w H s Q u s' :=
    fun {σ' H' v u} J rv q => ⟨v, H', J.os, J.bare, J.base, J.hok, rv, q⟩
  cases fl with
  | ret u =>
    obtain ⟨v, σ', H', J, rv, q⟩ := hs
    exact fin J rv q
  | next =>
    obtain ⟨σ', H', J, q⟩ := hs
    exact fin (v := V.non) (u := Value.none) J rfl q
  | brk =>
    obtain ⟨_, _, _, q⟩ := hs
    exact False.elim q
  | cont =>
    obtain ⟨_, _, _, q⟩ := hs
    exact False.elim q
/-- the same, called by position -/
def FnG (P : Program) (w : World) (K : PySem.W.Frag) (mg : Str → Option Value) (base : Heap) (k : Nat) (f : Addr) (spec : DRs) : Prop :=
  ∀ (A : Around) (outer : List Env) (s : Shared) (H : Hp) (us : List Value) (vs : List V) (Q : VK), Room k A → A.guards = some [] → Env0 P w K mg base A outer s H → Vals vs us → liftC K spec vs H Q → codeAny (model P w) A (.call (.ref f) ⟨us, []⟩) (CR CX0 outer P w H s Q E0) s
theorem FnOkG.pos {fd : FuncData} {ps : List Str} (F : FnOkG P w K mg base k f fd ps spec) (hb : Binds K fd ps []) (hlen : ∀ ds m R, spec ds m R → ds.length = ps.length) : FnG P w K mg base k f spec := fun A outer s H us vs Q hr hg e0 r h => by
  have hl : us.length = ps.length := by
    obtain ⟨F1, G, E', m, ds, R, rl, rs, h, c⟩ := h
    rw [← r.length, ← rs.length]; exact hlen ds m R h
  have KX : K.In s.heap := e0.mod.kin.keeps fun b o e => (e0.bs b o e).1
  exact F.run A outer s H ⟨us, []⟩ us vs Q hr hg e0 (by
    have := hb s us KX (by simpa using hl)
    simpa using this) r h
theorem FnG.fin {spec' : DRs} (g : FnG P w K mg base k f spec) (h : ∀ ds m R, spec' ds m R → spec ds m (Fin m R)) : FnG P w K mg base k f spec' := fun A outer s H us vs Q hr hg e0 r ⟨F, G, E', m, ds, R, rl, rs, q, c⟩ =>
  g A outer s H us vs Q hr hg e0 r ⟨F, G, E', m, ds, _, rl, rs, h ds m R q, fun d m' F' E' H' v f' e' rl' rp' hf => by
    obtain ⟨d2, m2, F2, E2, f2, e2, rl2, rp2, h2⟩ := Fin.ok rl rl' f' e' rp' hf
    exact c d2 m2 F2 E2 H' v (f'.trans f2) e2 rl2 rp2 h2⟩
end
section
variable {X : Cx} {k j : Nat} {a : Addr} {x : Str} {p pos : Pos} {e : Expr} {es : List Expr} {t : TDA} {spec : DRs}
theorem cd_fnG (F : FnG X.prog X.w X.K X.mg X.base k a spec) (hgu : X.A.guards = some []) (hr : Room j X.A) (hk : k ≤ j := by decide) : CallD X (.ref a) spec := fun pins s σ H xs us Q I r h => by
  refine wpAny_call (codeAny_mono (F X.A X.stack s H us xs Q (hr.mono hk) hgu I.env0 r h) fun r s' hq => ?_)
  cases r with
  | error e => exact False.elim hq
  | ok fl =>
    cases fl with
    | ret u => exact I.after hq
    | next => exact False.elim hq
    | brk => exact False.elim hq
    | cont => exact False.elim hq
theorem de_callG (F : FnG X.prog X.w X.K X.mg X.base k a spec) (hkp : PySem.W.keepIn X.K (.ref a) = true) (hgu : X.A.guards = some []) (hm : X.mg x = some (.ref a)) (hr : Room j X.A) (ha : DA X (e :: es) t) (hk : k ≤ j := by decide) (hg : Gl X x := by rfl) (hdb : (x == ("__debug__" : Str)) = false := by decide)
    (he : starEach (e :: es) X.env = (false, eval e X.env) :: starEach es X.env := by rfl) (hpl : ((backTo pos (starEach es X.env)).any fun x => x.fst) = false := by rfl) : DE X (.Call (.Name x p) (e :: es) [] pos) (dCall spec t) :=
  ⟨PE.imp (pe_callV (cd_fnG F hgu hr hk) hkp hg hm ha.pa hdb he hpl) fun σ H Q h => lift_call h⟩
/-! ### repr -/
def dRepr : DRs := fun ds m R => ∃ d, ds = [d] ∧ (∃ xs, seqOf d m = some xs) ∧ (toP (datOf d m)).canLay0 = true ∧ (toP (datOf d m)).showable = true ∧ (toP (datOf d m)).depth ≤ 60 ∧ (toP (datOf d m)).shown.length ≤ sizeLine ∧ R (.str (toP (datOf d m)).shown) m
theorem Rl.dat0 {K : PySem.W.Frag} {F G H : Hp} {E : Eta} {m : Mu} (r : Rl K F G H E m) {d : D} {v : V} (p : Rp K F E d v) (h : (toP (datOf d m)).canLay0 = true) : Dp K H v (toP (datOf d m)) := by
  have hc := h
  cases d with
  | ref n =>
    cases e : m[n]? with
    | none => simp only [datOf, e] at hc; simp [toP, canLay_dict] at hc
    | some mo =>
      cases mo with
      | lst xs =>
        simp only [datOf, e] at hc ⊢
        obtain ⟨q, _, rfl, vs, a, b, _⟩ := r.ref_at p e
        have h' : PyData.canLayAll0 (toPs xs) = true := by simpa [toP, PyData.canLay0] using hc
        exact .lst (SqL.of a) (dps_of r b h')
      | _ => simp only [datOf, e] at hc; simp [toP, canLay_dict] at hc
  | _ => exact dp_of r p hc
theorem cd_repr (hgu : X.A.guards = some []) (hr : Room j X.A) : CallD X (.builtin "repr") dRepr := by
  intro pins s σ H xs us Q I r ⟨F, G, E, m, ds, R, rl, rs, ⟨d, e, ⟨ys, hy⟩, hc, hs, hd, hz, h⟩, c⟩
  subst e
  obtain ⟨v, rfl, rp⟩ := rps1 rs
  obtain ⟨a, ws, rfl, _, _⟩ := rl.seq_ok rp hy
  obtain ⟨u, rfl, ru⟩ := r.one
  cases (show u = Value.ref a from ru)
  obtain ⟨as, rd⟩ := Dp.reads I _ _ _ (rl.dat0 rp hc) rfl
  refine repr_of_reads' rd hs (PyData.noDict_hsm (PyData.hasDict_of_canLay _ hc)) hgu (by have := hr.units; omega) (fun _ _ e => e) (fun h' u tk hk => ?_) hz
  exact ⟨.str _, H, I.kept hk, ⟨u, rfl⟩, c.val rl (.str _) h⟩
end
end DL
set_option Elab.async false
set_option linter.all false
set_option maxRecDepth 100000
set_option maxHeartbeats 4000000
/-! D6o: the end of a law whose def needs that no repr is under way. -/
namespace DL
open PySem PySem.Spec PyProof.Rows L2 SlX

/-- the tables and the script's list -/
def H0 (T : List Addr) (a : Addr) (u : Option HO) : Hp := fun b => if b ∈ T then some (.tbl #[]) else if b = a then u else none
section
variable {T : List Addr} {a b : Addr} {u : Option HO} {x : HO}
theorem H0_T (h : b ∈ T) : H0 T a u b = some (.tbl #[]) := if_pos h
theorem H0_a (h : a ∉ T) : H0 T a u a = u := (if_neg h).trans (if_pos rfl)
theorem H0_cases (h : H0 T a u b = some x) : (b ∈ T ∧ x = .tbl #[]) ∨ (b ∉ T ∧ b = a ∧ u = some x) := by
  unfold H0 at h
  by_cases h1 : b ∈ T
  · rw [if_pos h1] at h
    exact .inl ⟨h1, (Option.some.inj h).symm⟩
  · rw [if_neg h1] at h
    by_cases h2 : b = a
    · rw [if_pos h2] at h
      exact .inr ⟨h1, h2, h⟩
    · rw [if_neg h2] at h
      cases h
end
/-- the heap where it starts: the script's list and the tables stand apart -/
structure Start (K : PySem.W.Frag) (h : Heap) (T : List Addr) (a : Addr) (vs : List Value) : Prop where
  kin : K.In h
  tab : ∀ P ∈ T, h.get? P = some { cls := .none, data := .fields #[] }
  noT : ∀ P ∈ T, K.lookup P = none
  scr : h.get? a = some { cls := .type "list", data := .seq vs.toArray }
theorem Start.aT {K : PySem.W.Frag} {h : Heap} {T : List Addr} {a : Addr} {vs : List Value} (S : Start K h T a vs) : a ∉ T := fun z => by
  have q := S.tab a z
  rw [S.scr] at q
  cases q
/-- an object that is neither stays in the base -/
theorem Start.base {K : PySem.W.Frag} {h : Heap} {T : List Addr} {a b : Addr} {vs : List Value} {u : Option HO} (S : Start K h T a vs) {o : Obj} (e : h.get? b = some o) (h1 : ∀ vs n, o.data ≠ .seq vs n) (h2 : o.data ≠ .fields #[]) :
    (hidT h (H0 T a u)).get? b = some o := hidT_get e (by
  cases q : H0 T a u b with
  | none => rfl
  | some y =>
    rcases H0_cases q with ⟨z, _⟩ | ⟨_, z, _⟩
    · rw [S.tab b z] at e
      cases e
      exact absurd rfl h2
    · subst z
      rw [S.scr] at e
      cases e
      exact absurd rfl (h1 _ _))
/-- the call of the law's def by the row's caller -/
theorem law_callG {P : Program} {w : World} {K : PySem.W.Frag} {mg mb : Str → Option Value} {k : Nat} {fa a : Addr} {cs : List (Addr × Addr)} {fd : FuncData} {x : Str} {spec : DRs} {s₁ : Shared} {vs : List Value} {ns : List Int}
    (S : Start K s₁.heap (cs.map (·.2)) a vs) (hns : s₁.heap.Ns mainGlobals mg) (hb : s₁.heap.Ns builtinsNs mb) (hbb : ∀ x : Str, x ≠ "__name__" → mb x = bootBuiltins x) (hlim : s₁.heap.NoLimit) (hg : s₁.gens = #[])
    (C : ∀ p ∈ cs, PySem.W.CodeHd s₁.heap p.1 p.2)
    (hbm : ∃ (bm : Addr) (ob : Obj), mg "__builtins__" = some (.ref bm) ∧ bm ≠ builtinsNs ∧ s₁.heap.get? bm = some ob ∧ ob.cls = .type "module" ∧ ob.dict = some builtinsNs ∧ ob.data = .plain)
    (hi : IntsAre vs ns) (hl : ns.length ≤ sizeLine) (hr : Room k callerA)
    (F : ∀ base : Heap, K.In base → base.Ns mainGlobals mg → (∀ p ∈ cs, GxR.TabB base mg p.1 p.2) → FnOkG P w K mg base k fa fd [x] spec) (hbind : ∀ (s : Shared) (u : Value), BindsTo s fd ⟨[u], []⟩ [(x, u)])
    (hsp : ∀ H : Hp, (∀ p ∈ cs, H p.2 = some (.tbl #[])) → SqL K H a (ns.map V.int) → liftC K spec [.ref a] H fun v _ => v = .bl true) :
    codeAny (model P w) callerA (.call (.ref fa) ⟨[.ref a], []⟩) (fun r s' => r = .ok (.ret (.bool true)) ∧ OldK s₁.heap s'.heap ∧ s'.os = s₁.os ∧ AllBare s'.gens) s₁ := by
  have rv := vals_ints hi
  have lenV := hi.length
  have memT : ∀ p ∈ cs, p.2 ∈ cs.map (·.2) := fun p hp => List.mem_map.mpr ⟨p, hp, rfl⟩
  -- the script's list: known to K, or tracked as one that never changes
  obtain ⟨u, hu⟩ : ∃ u : Option HO, (u = none ∧ ∃ o, K.lookup a = some o) ∨ (u = some (.frz { cls := .type "list", data := .seq vs.toArray } (.lst (ns.map V.int))) ∧ K.lookup a = none) := by
    cases hk : K.lookup a with
    | some o => exact ⟨none, .inl ⟨rfl, o, rfl⟩⟩
    | none => exact ⟨_, .inr ⟨rfl, rfl⟩⟩
  have hT : ∀ p ∈ cs, H0 (cs.map (·.2)) a u p.2 = some (.tbl #[]) := fun p hp => H0_T (memT p hp)
  have hS : SqL K (H0 (cs.map (·.2)) a u) a (ns.map V.int) := by
    rcases hu with ⟨_, o, ek⟩ | ⟨e, _⟩
    · have e := S.kin a o ek
      rw [S.scr] at e
      cases e
      exact .inr ⟨_, vs.toArray, _, ek, rfl, rfl, rfl, by rw [List.size_toArray, lenV]; exact hl, by simpa using rv⟩
    · exact .inl (.inr ⟨{ cls := .type "list", data := .seq vs.toArray }, (H0_a S.aT).trans e⟩)
  have hok : HOk P w (H0 (cs.map (·.2)) a u) s₁.heap := fun b y e => by
    rcases H0_cases e with ⟨h1, h2⟩ | ⟨_, h2, h3⟩
    · subst h2
      exact S.tab b h1
    · subst h2
      rcases hu with ⟨e1, _⟩ | ⟨e1, _⟩
      · rw [e1] at h3; cases h3
      · rw [e1] at h3
        cases h3
        exact ⟨S.scr, by rw [List.length_map]; exact hl, vs, _, rv, S.scr⟩
  have hKb : K.In (hidT s₁.heap (H0 (cs.map (·.2)) a u)) := fun b o e => hidT_get (S.kin b o e) (by
    cases q : H0 (cs.map (·.2)) a u b with
    | none => rfl
    | some y =>
      rcases H0_cases q with ⟨h1, _⟩ | ⟨_, h2, h3⟩
      · rw [S.noT b h1] at e; cases e
      · subst h2
        rcases hu with ⟨e1, _⟩ | ⟨_, e1⟩
        · rw [e1] at h3; cases h3
        · rw [e1] at e; cases e)
  have nsK : ∀ {b : Addr} {m : Str → Option Value}, s₁.heap.Ns b m → (hidT s₁.heap (H0 (cs.map (·.2)) a u)).Ns b m := fun {b m} ⟨o, es, ep, e, d, r⟩ =>
    ⟨o, es, ep, S.base e (fun vs n z => by rw [d] at z; cases z) (fun z => by rw [d] at z; cases z), d, r⟩
  have hM : L2.Mod K mg (hidT s₁.heap (H0 (cs.map (·.2)) a u)) := ⟨hKb, nsK hns, ⟨mb, nsK hb, hbb⟩, let ⟨mc, h1, h2⟩ := hlim; ⟨mc, nsK h1, h2⟩⟩
  have nsT : ∀ {b : Addr} {m : Str → Option Value}, s₁.heap.Ns b m → ∀ p ∈ cs, b ≠ p.2 := fun {b m} ⟨o, es, ep, e, d, _⟩ p hp z => by
    rw [z, S.tab _ (memT p hp)] at e
    cases e
    cases d
  have TB : ∀ p ∈ cs, GxR.TabB (hidT s₁.heap (H0 (cs.map (·.2)) a u)) mg p.1 p.2 := fun p hp => by
    refine ⟨?_, ?_, nsT hns p hp⟩
    · obtain ⟨o, us, file, tf, flags, tg, inF, text, tt, e1, r1, r2, r3, r⟩ := C p hp
      refine ⟨o, us, file, tf, flags, tg, inF, text, tt, S.base e1 (fun vs n z => by rw [r2] at z; cases z) (fun z => ?_), r1, r2, r3, r⟩
      rw [r2] at z
      cases z
      simp at r3
    · obtain ⟨bm, ob, b1, b2, b3, b4, b5, b6⟩ := hbm
      have plain : ∀ {c : Addr} {o : Obj}, s₁.heap.get? c = some o → o.data ≠ .plain → bm ≠ c := fun {c o} e d z => by
        rw [z, e] at b3
        cases b3
        exact d b6
      refine ⟨bm, ob, b1, b2, ?_, plain (S.tab _ (memT p hp)) (fun z => by cases z), S.base b3 (fun vs n z => by rw [b6] at z; cases z) (fun z => by rw [b6] at z; cases z), b4, b5, b6⟩
      obtain ⟨o, es, ep, e, d, _⟩ := hns
      exact plain e fun z => by rw [d] at z; cases z
  have e0 : Env0 P w K mg (hidT s₁.heap (H0 (cs.map (·.2)) a u)) callerA [] s₁ (H0 (cs.map (·.2)) a u) :=
    ⟨rfl, hM, fun b o e => of_hidT e, Nat.le_of_eq (hidT_size _ _), trivial, fun b hb => absurd (show b ∈ ([] : List Addr) from hb) (by simp), hok, .of_eq hg⟩
  refine codeAny_mono ((F _ hKb (nsK hns) TB).run callerA [] s₁ _ ⟨[.ref a], []⟩ [.ref a] [.ref a] _ hr rfl e0 (hbind s₁ (.ref a)) (.cons rfl .nil) (hsp _ hT hS)) fun r s' h => ?_
  cases r with
  | error e => exact False.elim h
  | ok fl =>
    cases fl with
    | next => exact False.elim h
    | brk => exact False.elim h
    | cont => exact False.elim h
    | ret v =>
      obtain ⟨v', H', os, bare, un, hok', r', q⟩ := h
      subst q
      obtain rfl : v = Value.bool true := r'
      have same : ∀ b o, b ∉ cs.map (·.2) → s₁.heap.get? b = some o → s'.heap.get? b = some o := fun b o nb e => by
        cases q : H0 (cs.map (·.2)) a u b with
        | none => exact un.keep b o e q (fun z => absurd (show b ∈ ([] : List Addr) from z) (by simp)) (by simp)
        | some y =>
          rcases H0_cases q with ⟨h1, _⟩ | ⟨_, h2, h3⟩
          · exact absurd h1 nb
          · subst h2
            rcases hu with ⟨e1, _⟩ | ⟨e1, _⟩
            · rw [e1] at h3; cases h3
            · rw [e1] at h3
              cases h3
              obtain ⟨k1, _⟩ := hok' b _ (un.frzs b _ _ q)
              rw [S.scr] at e
              cases e
              exact k1
      have more : ∀ p ∈ cs, ∃ ps : Array Value, s'.heap.get? p.2 = some { cls := .none, data := .fields ps } := fun p hp => by
        obtain ⟨ps, z⟩ := un.tbls p.2 #[] (hT p hp)
        exact ⟨_, hok' p.2 _ z⟩
      refine ⟨rfl, ⟨fun b o e => ?_, fun b o e => ?_⟩, os, bare⟩
      · by_cases hb' : b ∈ cs.map (·.2)
        · obtain ⟨p, hp, ep⟩ := List.mem_map.mp hb'
          obtain ⟨ps, hm⟩ := more p hp
          subst ep
          have e2 := S.tab _ hb'
          rw [e2] at e
          cases e
          exact .inr (.inl ⟨((C p hp).tab e2).isCodeTable, rfl, #[], ps, rfl, by rw [Array.empty_append]; exact hm⟩)
        · exact .inl (same b o hb' e)
      · by_cases hb' : b ∈ cs.map (·.2)
        · obtain ⟨p, hp, ep⟩ := List.mem_map.mp hb'
          obtain ⟨ps, hm⟩ := more p hp
          subst ep
          exact ⟨_, hm⟩
        · exact ⟨o, same b o hb' e⟩
/-- what is known of the law's promise at the head's heap -/
def LawAtG (l : PySem.W.OpenLaw) (w : World) (K : PySem.W.Frag) (k n : Nat) (x : Str) (mg : Str → Option Value) (fa : Addr) (h : Heap) : Prop :=
  ∃ (fd : FuncData) (cs : List (Addr × Addr)) (spec : DRs), (∀ p ∈ cs, h.get? p.2 = some { cls := .none, data := .fields #[] }) ∧ (∀ p ∈ cs, K.lookup p.2 = none) ∧ (∀ p ∈ cs, PySem.W.CodeHd h p.1 p.2) ∧ (∀ (s : Shared) (u : Value), BindsTo s fd ⟨[u], []⟩ [(x, u)]) ∧
    (∀ (H : Hp) (a : Addr) (ns : List Int), ns.length ≤ n → (∀ z ∈ ns, Builtin.Int.intBits z ≤ 1048576) → (∀ p ∈ cs, H p.2 = some (.tbl #[])) → SqL K H a (ns.map V.int) → liftC K spec [.ref a] H fun v _ => v = .bl true) ∧
    ∀ base : Heap, K.In base → base.Ns mainGlobals mg → (∀ p ∈ cs, GxR.TabB base mg p.1 p.2) → FnOkG l.prog w K mg base k fa fd [x] spec
theorem walk_ofG {l : PySem.W.OpenLaw} {n k : Nat} {q : Program} {loose : List Str} {XP : (Str → Option Value) → Heap → Prop} {YP : World → Heap → Prop} {d : DefRec} {x : Str}
    (hn : l.most = some n) (hn2 : n ≤ sizeLine) (hdf : d.params.defaults = []) (hr : Room k callerA)
    (F : ∀ (w : World) (mg : Str → Option Value) (fa : Addr) (h : Heap), YP w h → h.Ns mainGlobals mg → mg d.name = some (.ref fa) → ∃ K : PySem.W.Frag, K.In h ∧ LawAtG l w K k n x mg fa h) :
    PySem.W.WalkO q loose XP YP l.row.toRowW d [] (fun f vs => PySem.call f vs) := by
  refine Att.attach_callB hn hdf fun w s₀ s₁ mg mb fa o pm cd doc a vs ns G Y ho hd hcd hmg hobj hints hlen hbits hg => ?_
  obtain ⟨K, KX, fd, cs, spec, hT, nT, C, hb, hsp, hF⟩ := F w mg fa _ Y G.T.g hmg
  refine law_callG ⟨KX, fun P hP => ?_, fun P hP => ?_, hobj⟩ G.T.g G.T.b G.T.builtins G.T.nolimit hg C G.T.bmain hints (Nat.le_trans hlen hn2) hr hF hb fun H hH hS => hsp H a ns hlen hbits hH hS
  · obtain ⟨p, hp, rfl⟩ := List.mem_map.mp hP
    exact hT p hp
  · obtain ⟨p, hp, rfl⟩ := List.mem_map.mp hP
    exact nT p hp
end DL
set_option Elab.async false
set_option linter.all false
set_option maxRecDepth 100000
set_option maxHeartbeats 4000000
/-! D7: every reading told as what it asks, for simp. -/
namespace DL
open PySem PySem.Spec PyProof.Rows L2 SlX

@[simp] theorem s_dVar (i : Nat) (δ m R) : dVar i δ m R = (∃ d, δ[i]? = some (some d) ∧ R d m) := rfl
@[simp] theorem s_dC (d : D) (z0 m R) : dC d z0 m R = (R d m) := rfl
@[simp] theorem s_dOp (g : DR2) (ta tb : TDE) (δ m R) : dOp g ta tb δ m R = (ta δ m fun x m1 => tb δ m1 fun y m2 => g x y m2 R) := rfl
@[simp] theorem s_dUn (g : DR1) (ta : TDE) (δ m R) : dUn g ta δ m R = (ta δ m fun x m1 => g x m1 R) := rfl
@[simp] theorem s_dTB (t : TDE) (δ m R) : dTB t δ m R = (t δ m fun x m1 => ∃ k, x = .bl k ∧ R k m1) := rfl
@[simp] theorem s_dChain (g g' : DR2) (ta tb tc : TDE) (δ m R) : dChain g g' ta tb tc δ m R = (ta δ m fun x m1 => tb δ m1 fun y m2 => g x y m2 fun z m3 => ∃ k, z = .bl k ∧ (if k = true then tc δ m3 fun w m4 => g' y w m4 R else R (.bl false) m3)) := rfl
@[simp] theorem s_dAnd (t u : TDT) (δ m R) : dAnd t u δ m R = (t δ m fun c m1 => if c = true then u δ m1 R else R false m1) := rfl
@[simp] theorem s_dOr (t u : TDT) (δ m R) : dOr t u δ m R = (t δ m fun c m1 => if c = true then R true m1 else u δ m1 R) := rfl
@[simp] theorem s_dNot (t : TDT) (δ m R) : dNot t δ m R = (t δ m fun c m1 => R (!c) m1) := rfl
@[simp] theorem s_dAndV (ta tb : TDE) (δ m R) : dAndV ta tb δ m R = (ta δ m fun x m1 => ∃ c, x = .bl c ∧ if c = true then tb δ m1 R else R (.bl false) m1) := rfl
@[simp] theorem s_dOrV (ta tb : TDE) (δ m R) : dOrV ta tb δ m R = (ta δ m fun x m1 => ∃ c, x = .bl c ∧ if c = true then R (.bl true) m1 else tb δ m1 R) := rfl
@[simp] theorem s_dNotV (ta : TDE) (δ m R) : dNotV ta δ m R = (ta δ m fun x m1 => ∃ c, x = .bl c ∧ R (.bl (!c)) m1) := rfl
@[simp] theorem s_dIf (t : TDT) (ta tb : TDE) (δ m R) : dIf t ta tb δ m R = (t δ m fun c m1 => if c = true then ta δ m1 R else tb δ m1 R) := rfl
@[simp] theorem s_dNil (z0 m R) : dNil z0 m R = (R [] m) := rfl
@[simp] theorem s_dCons (t : TDE) (u : TDA) (δ m R) : dCons t u δ m R = (t δ m fun x m1 => u δ m1 fun xs m2 => R (x :: xs) m2) := rfl
@[simp] theorem s_dTup (t : TDA) (δ m R) : dTup t δ m R = (t δ m fun xs m1 => xs.length ≤ sizeLine ∧ R (.tup xs) m1) := rfl
@[simp] theorem s_dLst (t : TDA) (δ m R) : dLst t δ m R = (t δ m fun xs m1 => xs.length ≤ sizeLine ∧ R (.lst xs) m1) := rfl
@[simp] theorem s_dLstM (t : TDA) (δ m R) : dLstM t δ m R = (t δ m fun xs m1 => xs.length ≤ sizeLine ∧ R (.ref m1.length) (m1 ++ [.lst xs])) := rfl
@[simp] theorem s_dNext (D₁ δ m) : dNext D₁ δ m = (D₁.nx δ m) := rfl
@[simp] theorem s_dSeq (t u : TDS) (D₁ δ m) : dSeq t u D₁ δ m = (t { D₁ with nx := u D₁ } δ m) := rfl
@[simp] theorem s_dBreak (D₁ δ m) : dBreak D₁ δ m = (D₁.bk δ m) := rfl
@[simp] theorem s_dCont (D₁ δ m) : dCont D₁ δ m = (D₁.ct δ m) := rfl
@[simp] theorem s_dNever (z0 z1 z2) : dNever z0 z1 z2 = (False) := rfl
@[simp] theorem s_dDrop (t : TDE) (D₁ δ m) : dDrop t D₁ δ m = (t δ m fun _ m1 => D₁.nx δ m1) := rfl
@[simp] theorem s_dRet (t : TDE) (D₁ δ m) : dRet t D₁ δ m = (t δ m D₁.rt) := rfl
@[simp] theorem s_dRetN (D₁ z1 m) : dRetN D₁ z1 m = (D₁.rt .non m) := rfl
@[simp] theorem s_dIfS (c : TDT) (t u : TDS) (D₁ δ m) : dIfS c t u D₁ δ m = (c δ m fun b m1 => if b = true then t D₁ δ m1 else u D₁ δ m1) := rfl
@[simp] theorem s_dName (i : Nat) (d δ m R) : dName i d δ m R = (R (δ.set i (some d)) m) := rfl
@[simp] theorem s_dGNil (ds δ m R) : dGNil ds δ m R = (ds = [] ∧ R δ m) := rfl
@[simp] theorem s_dGCons (t : TDG) (u : TDGs) (ds δ m R) : dGCons t u ds δ m R = (∃ d r, ds = d :: r ∧ t d δ m fun δ1 m1 => u r δ1 m1 R) := rfl
@[simp] theorem s_dGTup (n : Nat) (t : TDGs) (d δ m R) : dGTup n t d δ m R = (∃ xs, d = .tup xs ∧ xs.length = n ∧ t xs δ m R) := rfl
@[simp] theorem s_dAsg (te : TDE) (g : TDG) (D₁ δ m) : dAsg te g D₁ δ m = (te δ m fun x m1 => g x δ m1 D₁.nx) := rfl
@[simp] theorem s_dPar (i j : Nat) (ta : TDA) (D₁ δ m) : dPar i j ta D₁ δ m = (ta δ m fun ds m1 => ∃ x y, ds = [x, y] ∧ D₁.nx ((δ.set i (some x)).set j (some y)) m1) := rfl
@[simp] theorem s_dI0 (g : Int → Int → D) (x y m R) : dI0 g x y m R = (∃ i j, x = .int i ∧ y = .int j ∧ R (g i j) m) := rfl
@[simp] theorem s_dI (C : Int → Int → Prop) (g : Int → Int → D) (x y m R) : dI C g x y m R = (∃ i j, x = .int i ∧ y = .int j ∧ C i j ∧ R (g i j) m) := rfl
@[simp] theorem s_dEq (x y m R) : dEq x y m R = (shD (datOf x m) ∧ shD (datOf y m) ∧ R (.bl (eqD (datOf x m) (datOf y m))) m) := rfl
@[simp] theorem s_dNe (x y m R) : dNe x y m R = (shD (datOf x m) ∧ shD (datOf y m) ∧ R (.bl (!eqD (datOf x m) (datOf y m))) m) := rfl
@[simp] theorem s_dIs (x y m R) : dIs x y m R = (y = .non ∧ R (.bl (isNon x)) m) := rfl
@[simp] theorem s_dIsNot (x y m R) : dIsNot x y m R = (y = .non ∧ R (.bl (!isNon x)) m) := rfl
@[simp] theorem s_dInSeq (neg : Bool) (x y m R) : dInSeq neg x y m R = (∃ xs, seqOf y m = some xs ∧ flatD x = true ∧ xs.all flatD = true ∧ R (.bl (if neg then !inD x xs else inD x xs)) m) := rfl
@[simp] theorem s_dInSign (x y m R) : dInSign x y m R = (∃ c z, x = .str ⟨#[c]⟩ ∧ y = .str z ∧ R (.bl (decide (c ∈ z.cps.toList))) m) := rfl
@[simp] theorem s_dTru (t : TDE) (δ m R) : dTru t δ m R = (t δ m fun x m1 => ∃ k, truD m1 x = some k ∧ R k m1) := rfl
@[simp] theorem s_dCall (g : DRs) (t : TDA) (δ m R) : dCall g t δ m R = (t δ m fun ds m1 => g ds m1 R) := rfl
@[simp] theorem s_dLen (ds m R) : dLen ds m R = (∃ d n, ds = [d] ∧ lenOf m d = some n ∧ R (.int n) m) := rfl
@[simp] theorem s_dIStr (t : TDE) (δ m R) : dIStr t δ m R = (t δ m fun d m1 => ∃ x, d = .str x ∧ R (sgnD x) (fun _ => True) m1) := rfl
@[simp] theorem s_dIRng1 (t : TDA) (δ m R) : dIRng1 t δ m R = (t δ m fun ds m1 => ∃ j : Int, ds = [.int j] ∧ (-(2 ^ 62) ≤ j ∧ j < 2 ^ 62) ∧ R (rngD 0 j.toNat) (fun _ => True) m1) := rfl
@[simp] theorem s_dIRng2 (t : TDA) (δ m R) : dIRng2 t δ m R = (t δ m fun ds m1 => ∃ i j : Int, ds = [.int i, .int j] ∧ (-(2 ^ 62) ≤ i ∧ i < 2 ^ 62 ∧ -(2 ^ 62) ≤ j ∧ j < 2 ^ 62) ∧ R (rngD i (j - i).toNat) (fun _ => True) m1) := rfl
@[simp] theorem s_dFor (ti : TDI) (g : TDG) (tb : TDS) (D1 δ m) : dFor ti g tb D1 δ m = (ti δ m fun xs P m1 => forL g tb D1 P xs δ m1) := rfl
@[simp] theorem s_dLc (ti : TDI) (g : TDG) (tt : TDT) (te : TDE) (vs : List Nat) (δ m R) : dLc ti g tt te vs δ m R = (ti δ m fun xs P m1 => lcL g tt te (dwipe δ vs) P (fun acc m2 => R (.lst acc) m2) xs [] m1) := rfl
@[simp] theorem s_dYes (z0 m R) : dYes z0 m R = (R true m) := rfl
@[simp] theorem s_dMethS (C : Addr) (spec : DRs) (ta : TDE) (t : TDA) (δ m R) : dMethS C spec ta t δ m R = (ta δ m fun x m1 => isObjS C m1 x ∧ t δ m1 fun ds m2 => spec (x :: ds) m2 R) := rfl
@[simp] theorem s_dMethI (C : Addr) (nm : Str) (spec : DRs) (ta : TDE) (t : TDA) (δ m R) : dMethI C nm spec ta t δ m R = (ta δ m fun x m1 => isObjI C nm m1 x ∧ t δ m1 fun ds m2 => spec (x :: ds) m2 R) := rfl
@[simp] theorem s_dSlot (C : Addr) (i : Nat) (ta : TDE) (δ m R) : dSlot C i ta δ m R = (ta δ m fun x m1 => ∃ d, slotOf C i m1 x = some d ∧ R d m1) := rfl
@[simp] theorem s_dSetSlot (C : Addr) (i : Nat) (te ta : TDE) (D1 δ m) : dSetSlot C i te ta D1 δ m = (te δ m fun y m1 => ta δ m1 fun x m2 => ∃ n xs, x = .ref n ∧ m2[n]? = some (.slt C xs) ∧ D1.nx δ (m2.set n (.slt C (putSD i y xs)))) := rfl
@[simp] theorem s_dFld (C : Addr) (f : Str) (ta : TDE) (δ m R) : dFld C f ta δ m R = (ta δ m fun x m1 => ∃ d, fldOf C f m1 x = some d ∧ R d m1) := rfl
@[simp] theorem s_dSetFld (C : Addr) (f : Str) (te ta : TDE) (D1 δ m) : dSetFld C f te ta D1 δ m = (te δ m fun y m1 => ta δ m1 fun x m2 => ∃ n fs, x = .ref n ∧ m2[n]? = some (.ins C fs) ∧ fs.length < 1000 ∧ D1.nx δ (m2.set n (.ins C (putFD f y fs)))) := rfl
@[simp] theorem s_dIx (x y m R) : dIx x y m R = (∃ i d, y = .int i ∧ ixD m x i = some d ∧ R d m) := rfl
@[simp] theorem s_dNoPart (z0 m R) : dNoPart z0 m R = (R none m) := rfl
@[simp] theorem s_dPart (t : TDE) (δ m R) : dPart t δ m R = (t δ m fun x m1 => ∃ i, x = .int i ∧ R (some i) m1) := rfl
@[simp] theorem s_dSl (ta : TDE) (tl th : TDO) (δ m R) : dSl ta tl th δ m R = (ta δ m fun x m1 => tl δ m1 fun lo m2 => th δ m2 fun hi m3 => dCut x lo hi m3 R) := rfl
@[simp] theorem s_dRevL (ta : TDE) (δ m R) : dRevL ta δ m R = (ta δ m fun x m1 => ∃ xs, lstOf x m1 = some xs ∧ R (.lst xs.reverse) m1) := rfl
@[simp] theorem s_dListOf (ds m R) : dListOf ds m R = (∃ d xs, ds = [d] ∧ seqOf d m = some xs ∧ R (.lst xs) m) := rfl
@[simp] theorem s_dListOfM (ds m R) : dListOfM ds m R = (∃ d xs, ds = [d] ∧ seqOf d m = some xs ∧ R (.ref m.length) (m ++ [.lst xs])) := rfl
@[simp] theorem s_dSortI (ds m R) : dSortI ds m R = (∃ (d : D) (ns : List Int), ds = [d] ∧ lsqOf d m = some (ns.map .int) ∧ R (.lst ((sortI ns).map .int)) m) := rfl
@[simp] theorem s_dAll (ds m R) : dAll ds m R = (∃ (d : D) (bs : List Bool), ds = [d] ∧ lsqOf d m = some (bs.map .bl) ∧ R (.bl (bs.all id)) m) := rfl
@[simp] theorem s_dAny (ds m R) : dAny ds m R = (∃ (d : D) (bs : List Bool), ds = [d] ∧ lsqOf d m = some (bs.map .bl) ∧ R (.bl (bs.any id)) m) := rfl
@[simp] theorem s_dSum (ds m R) : dSum ds m R = (∃ (d : D) (ns : List Int), ds = [d] ∧ lsqOf d m = some (ns.map .int) ∧ R (.int ns.sum) m) := rfl
@[simp] theorem s_dBM (T : String) (g : DMt) (to : TDE) (t : TDA) (δ m R) : dBM T g to t δ m R = (to δ m fun x m1 => tyD T x m1 ∧ t δ m1 fun ds m2 => g x ds m2 R) := rfl
@[simp] theorem s_dAppend (x ds m R) : dAppend x ds m R = (∃ n xs y, x = .ref n ∧ ds = [y] ∧ m[n]? = some (.lst xs) ∧ xs.length < sizeLine ∧ R .non (m.set n (.lst (xs ++ [y])))) := rfl
@[simp] theorem s_dPop (x ds m R) : dPop x ds m R = (∃ n xs y, x = .ref n ∧ ds = [] ∧ m[n]? = some (.lst xs) ∧ xs[xs.length - 1]? = some y ∧ R y (m.set n (.lst xs.dropLast))) := rfl
@[simp] theorem s_dPopAt (x ds m R) : dPopAt x ds m R = (∃ n xs i j y, x = .ref n ∧ ds = [.int i] ∧ m[n]? = some (.lst xs) ∧ -(2 ^ 63) ≤ i ∧ i < 2 ^ 63 ∧ seqIndex? i xs.length = some j ∧ xs[j]? = some y ∧ R y (m.set n (.lst (xs.eraseIdx j)))) := rfl
@[simp] theorem s_dSetIx (te to ti : TDE) (D1 δ m) : dSetIx te to ti D1 δ m = (te δ m fun v m1 => to δ m1 fun x m2 => ti δ m2 fun y m3 => ∃ n xs i j, x = .ref n ∧ y = .int i ∧ m3[n]? = some (.lst xs) ∧ ixN xs.length i = some j ∧ D1.nx δ (m3.set n (.lst (xs.set j v)))) := rfl
@[simp] theorem s_dStar (te : TDE) (t : TDA) (δ m R) : dStar te t δ m R = (te δ m fun x m1 => ∃ xs, seqOf x m1 = some xs ∧ t δ m1 fun ys m2 => R (xs ++ ys) m2) := rfl
@[simp] theorem s_dSortSet (ta : TDE) (δ m R) : dSortSet ta δ m R = (ta δ m fun x m1 => ∃ ns : List Int, x = .tup (ns.map .int) ∧ ns.length < 64 ∧ R (.lst ((setI ns).map .int)) m1) := rfl
@[simp] theorem s_dLenSet (ta : TDE) (δ m R) : dLenSet ta δ m R = (ta δ m fun x m1 => ∃ ns : List Int, lsqOf x m1 = some (ns.map .int) ∧ ns.Nodup ∧ ns.length ≤ 4000 ∧ R (.int (ns.length : Nat)) m1) := rfl
@[simp] theorem s_dDGet (td ty : TDE) (δ m R) : dDGet td ty δ m R = (td δ m fun x m1 => ty δ m1 fun y m2 => ∃ kvs k d, dicOf x m2 = some kvs ∧ keyD y = some k ∧ vlD kvs k = some d ∧ R d m2) := rfl
@[simp] theorem s_dInDic (neg : Bool) (y x m R) : dInDic neg y x m R = (∃ kvs k, dicOf x m = some kvs ∧ keyD y = some k ∧ R (.bl (if neg then !(vlD kvs k).isSome else (vlD kvs k).isSome)) m) := rfl
@[simp] theorem s_dDGet1 (td ty : TDE) (δ m R) : dDGet1 td ty δ m R = (td δ m fun x m1 => (∃ kvs, dicOf x m1 = some kvs) ∧ ty δ m1 fun y m2 => ∃ kvs k, dicOf x m2 = some kvs ∧ keyD y = some k ∧ R ((vlD kvs k).getD .non) m2) := rfl
@[simp] theorem s_dDGet2 (td ty tx : TDE) (δ m R) : dDGet2 td ty tx δ m R = (td δ m fun x m1 => (∃ kvs, dicOf x m1 = some kvs) ∧ ty δ m1 fun y m2 => tx δ m2 fun z m3 => ∃ kvs k, dicOf x m3 = some kvs ∧ keyD y = some k ∧ R ((vlD kvs k).getD z) m3) := rfl
@[simp] theorem s_dNewD (z0 m R) : dNewD z0 m R = (R (.dic []) m) := rfl
@[simp] theorem s_dNewDM (z0 m R) : dNewDM z0 m R = (R (.ref m.length) (m ++ [.dic []])) := rfl
@[simp] theorem s_dDictOf (ds m R) : dDictOf ds m R = (∃ d kvs, ds = [d] ∧ dicOf d m = some kvs ∧ R (.dic kvs) m) := rfl
@[simp] theorem s_dDictOfM (ds m R) : dDictOfM ds m R = (∃ d kvs, ds = [d] ∧ dicOf d m = some kvs ∧ R (.ref m.length) (m ++ [.dic kvs])) := rfl
@[simp] theorem s_dDPut (td ty te : TDE) (D1 δ m) : dDPut td ty te D1 δ m = (te δ m fun v m1 => td δ m1 fun x m2 => ty δ m2 fun y m3 => ∃ n kvs k, x = .ref n ∧ m3[n]? = some (.dic kvs) ∧ keyD y = some k ∧ kvs.length < sizeLine ∧ D1.nx δ (m3.set n (.dic (ptD kvs k v)))) := rfl
@[simp] theorem s_dDPop (td ty : TDE) (δ m R) : dDPop td ty δ m R = (td δ m fun x m1 => (∃ kvs, dicOf x m1 = some kvs) ∧ ty δ m1 fun y m2 => ∃ n kvs k v, x = .ref n ∧ m2[n]? = some (.dic kvs) ∧ keyD y = some k ∧ vlD kvs k = some v ∧ R v (m2.set n (.dic (dpD kvs k)))) := rfl
@[simp] theorem s_dStar2 (ta tb : TDE) (δ m R) : dStar2 ta tb δ m R = (ta δ m fun x m1 => ∃ k1, dicOf x m1 = some k1 ∧ k1.length ≤ 4000 ∧ tb δ m1 fun y m2 => ∃ k2, dicOf y m2 = some k2 ∧ k2.length ≤ 4000 ∧ R (.dic (mgD (mgD [] k1) k2)) m2) := rfl
@[simp] theorem s_dDc (ti : TDI) (g : TDG) (tt : TDT) (tk tv : TDE) (vs : List Nat) (δ m R) : dDc ti g tt tk tv vs δ m R = (ti δ m fun xs P m1 => dcL g tt tk tv (dwipe δ vs) P (fun acc m2 => R (.dic acc) m2) xs [] m1) := rfl
@[simp] theorem s_dItems (te : TDE) (δ m R) : dItems te δ m R = (te δ m fun x m1 => ∃ kvs, dicOf x m1 = some kvs ∧ R (.lst (itD kvs)) m1) := rfl
@[simp] theorem s_dOwnC (C : Addr) (spec : DRs) (x y m R) : dOwnC C spec x y m R = (instD C m x ∧ instD C m y ∧ spec [x, y] m R) := rfl
@[simp] theorem s_dOwnNe (C : Addr) (spec : DRs) (x y m R) : dOwnNe C spec x y m R = (instD C m x ∧ instD C m y ∧ spec [x, y] m fun z m2 => ∃ c, z = .bl c ∧ R (.bl (!c)) m2) := rfl
@[simp] theorem s_dEqTup (L : Addr → List D → Prop) (k n : Nat) (x y m R) : dEqTup L k n x y m R = (∃ xs, x = .tup xs ∧ y = .tup xs ∧ clDs 0 xs = true ∧ OkEs L k n xs ∧ R (.bl true) m) := rfl
@[simp] theorem s_dIsi (U : String) (ds m R) : dIsi U ds m R = (∃ d b, ds = [d, .ty U] ∧ isiB U m d = some b ∧ R (.bl b) m) := rfl
@[simp] theorem s_dIsiO (C' C : Addr) (b : Bool) (ds m R) : dIsiO C' C b ds m R = (∃ d, ds = [d, .ad C] ∧ isObjS C' m d ∧ R (.bl b) m) := rfl
@[simp] theorem s_dIsiI (C' C : Addr) (b : Bool) (ds m R) : dIsiI C' C b ds m R = (∃ n fs, ds = [.ref n, .ad C] ∧ m[n]? = some (.ins C' fs) ∧ R (.bl b) m) := rfl
@[simp] theorem s_dIsiN (C : Addr) (ds m R) : dIsiN C ds m R = (∃ d T, ds = [d, .ad C] ∧ tyN m d = some T ∧ R (.bl false) m) := rfl
@[simp] theorem s_dLenOwn (C : Addr) (spec : DRs) (ds m R) : dLenOwn C spec ds m R = (∃ d, ds = [d] ∧ instD C m d ∧ spec [d] m fun z m2 => ∃ i : Int, z = .int i ∧ 0 ≤ i ∧ i < 2 ^ 63 ∧ R (.int i) m2) := rfl
@[simp] theorem s_dStrOwn (C : Addr) (spec : DRs) (ds m R) : dStrOwn C spec ds m R = (∃ d, ds = [d] ∧ instD C m d ∧ spec [d] m fun z m2 => ∃ x : Str, z = .str x ∧ R (.str x) m2) := rfl
@[simp] theorem s_dBoolOwn (C : Addr) (spec : DRs) (ds m R) : dBoolOwn C spec ds m R = (∃ d, ds = [d] ∧ instD C m d ∧ spec [d] m fun z m2 => ∃ b : Bool, z = .bl b ∧ R (.bl b) m2) := rfl
@[simp] theorem s_dOwnIx (C : Addr) (spec : DRs) (ta tb : TDE) (δ m R) : dOwnIx C spec ta tb δ m R = (ta δ m fun x m1 => tb δ m1 fun y m2 => instD C m2 x ∧ spec [x, y] m2 R) := rfl
@[simp] theorem s_dSplit (x ds m R) : dSplit x ds m R = (∃ a b, x = .str a ∧ ds = [.str b] ∧ (b.length == 0) = false ∧ a.length + 2 ≤ sizeLine ∧ R (.lst ((Txt.split a b).map .str)) m) := rfl
@[simp] theorem s_dJoin (x ds m R) : dJoin x ds m R = (∃ (a : Str) (d : D) (ys : List Str), x = .str a ∧ ds = [d] ∧ seqOf d m = some (ys.map .str) ∧ (ys.map (·.length)).sum + ys.length * a.length ≤ 16777216 ∧ R (.str (Txt.join a ys)) m) := rfl
@[simp] theorem s_dIntS (ds m R) : dIntS ds m R = (∃ a n, ds = [.str a] ∧ PySem.intText? a = some n ∧ a.length ≤ 640 ∧ R (.int n) m) := rfl
@[simp] theorem s_dFmt (te : TDE) (δ m R) : dFmt te δ m R = (te δ m fun x m1 => (∃ y : Str, x = .str y ∧ y.length ≤ sizeLine ∧ R (.str y) m1) ∨ ∃ i : Int, x = .int i ∧ i.natAbs.log2 < 1920 ∧ R (.str (toString i)) m1) := rfl
@[simp] theorem s_dJoined (ts : List TDE) (δ m R) : dJoined ts δ m R = (dJs ts Str.empty δ m fun out m1 => R (.str out) m1) := rfl
@[simp] theorem s_dOrT (ta tb : TDE) (δ m R) : dOrT ta tb δ m R = (ta δ m fun x m1 => ∃ k, truD m1 x = some k ∧ if k = true then R x m1 else tb δ m1 R) := rfl
@[simp] theorem s_dLenDic (ds m R) : dLenDic ds m R = (∃ d kvs, ds = [d] ∧ dicOf d m = some kvs ∧ R (.int kvs.length) m) := rfl
@[simp] theorem s_dProp (C : Addr) (spec : DRs) (ta : TDE) (δ m R) : dProp C spec ta δ m R = (ta δ m fun x m1 => instD C m1 x ∧ spec [x] m1 R) := rfl
@[simp] theorem s_dLc2 (ti : TDI) (g : TDG) (tt : TDT) (ti1 : TDI) (g1 : TDG) (tt1 : TDT) (te : TDE) (vs vs1 : List Nat) (δ m R) : dLc2 ti g tt ti1 g1 tt1 te vs vs1 δ m R = (ti δ m fun xs P m1 => lcL2 g tt ti1 g1 tt1 te (dwipe δ vs) vs1 P (fun acc m2 => R (.lst acc) m2) xs [] m1) := rfl
@[simp] theorem s_dIAdd (x y m R) : dIAdd x y m R = (∃ i j, x = .int i ∧ y = .int j ∧ R (.int (i + j)) m) := rfl
@[simp] theorem s_dIMul (x y m R) : dIMul x y m R = (∃ i j, x = .int i ∧ y = .int j ∧ CMul i j ∧ R (.int (i * j)) m) := rfl
@[simp] theorem s_dAug (i : Nat) (te : TDE) (g : DR2) (D1 δ m) : dAug i te g D1 δ m = (∃ x, δ[i]? = some (some x) ∧ te δ m fun y m1 => g x y m1 fun z m2 => D1.nx (δ.set i (some z)) m2) := rfl
@[simp] theorem s_dAugSlot (C : Addr) (i : Nat) (ta te : TDE) (g : DR2) (D1 δ m) : dAugSlot C i ta te g D1 δ m = (ta δ m fun x m1 => ∃ d, slotOf C i m1 x = some d ∧ te δ m1 fun y m2 => g d y m2 fun z m3 => ∃ n xs, x = .ref n ∧ m3[n]? = some (.slt C xs) ∧ D1.nx δ (m3.set n (.slt C (putSD i z xs)))) := rfl
@[simp] theorem s_dGFld (C : Addr) (f : Str) (ta : TDE) (y δ m R) : dGFld C f ta y δ m R = (ta δ m fun x m1 => ∃ n fs, x = .ref n ∧ m1[n]? = some (.ins C fs) ∧ fs.length < 1000 ∧ R δ (m1.set n (.ins C (putFD f y fs)))) := rfl
@[simp] theorem s_dMethK (C : Addr) (m : Str) (spec : DRs) (ta te : TDE) (δ mu R) : dMethK C m spec ta te δ mu R = (ta δ mu fun x m1 => isObjI C m m1 x ∧ te δ m1 fun y m2 => spec [x, y] m2 R) := rfl
@[simp] theorem s_dRepr (ds m R) : dRepr ds m R = (∃ d, ds = [d] ∧ (∃ xs, seqOf d m = some xs) ∧ (toP (datOf d m)).canLay0 = true ∧ (toP (datOf d m)).showable = true ∧ (toP (datOf d m)).depth ≤ 60 ∧ (toP (datOf d m)).shown.length ≤ sizeLine ∧ R (.str (toP (datOf d m)).shown) m) := rfl
section
variable {m : Mu} {R : D → Mu → Prop} {P : List D → (Mu → Prop) → Mu → Prop} {δ : DS}
@[simp] theorem s_dInt_i (i : Int) : dInt [.int i] m R = R (.int i) m := rfl
@[simp] theorem s_dInt_b (b : Bool) : dInt [.bl b] m R = R (.int (if b then 1 else 0)) m := rfl
@[simp] theorem s_dTupleOf_l (xs : List D) : dTupleOf [.lst xs] m R = R (.tup xs) m := by
  refine propext ⟨fun ⟨d, e, h⟩ => ?_, fun h => ⟨_, rfl, xs, rfl, h⟩⟩
  cases e
  obtain ⟨ys, e, h⟩ := h
  cases e
  exact h
@[simp] theorem s_dTupleOf_t (xs : List D) : dTupleOf [.tup xs] m R = R (.tup xs) m := by
  refine propext ⟨fun ⟨d, e, h⟩ => ?_, fun h => ⟨_, rfl, h⟩⟩
  cases e
  exact h
theorem s_dTupleOf_r {n : Nat} {xs : List D} (hm : m[n]? = some (.lst xs)) (h : R (.tup xs) m) : dTupleOf [.ref n] m R := ⟨_, rfl, xs, by simp [lstOf, hm], h⟩
@[simp] theorem s_dCut_s (z : Str) (lo hi : Option Int) : dCut (.str z) lo hi m R = (z.length ≤ sizeLine ∧ R (.str (cutS z lo hi)) m) := rfl
@[simp] theorem s_dCut_t (xs : List D) (lo hi : Option Int) : dCut (.tup xs) lo hi m R = R (.tup (cutD xs lo hi)) m := rfl
@[simp] theorem s_dCut_l (xs : List D) (lo hi : Option Int) : dCut (.lst xs) lo hi m R = R (.lst (cutD xs lo hi)) m := by
  refine propext ⟨fun ⟨d, e, h⟩ => ?_, fun h => ⟨_, rfl, h⟩⟩
  cases e
  exact h
@[simp] theorem s_dAdd_i (i j : Int) : dAdd (.int i) (.int j) m R = R (.int (i + j)) m := rfl
@[simp] theorem s_dAdd_s (a b : Str) : dAdd (.str a) (.str b) m R = (a.length + b.length ≤ sizeLine ∧ R (.str (a ++ b)) m) := rfl
@[simp] theorem s_dAdd_l (xs ys : List D) : dAdd (.lst xs) (.lst ys) m R = (xs.length + ys.length ≤ sizeLine ∧ R (.lst (xs ++ ys)) m) := by
  refine propext ⟨fun ⟨a, b, e1, e2, h⟩ => ?_, fun h => ⟨_, _, rfl, rfl, h⟩⟩
  cases e1
  cases e2
  exact h
@[simp] theorem s_dISeq (t : TDE) : dISeq t δ m P = t δ m fun d m1 => match d with
  | .tup xs => P xs (fun _ => True) m1
  | .lst xs => P xs (fun _ => True) m1
  | .fls xs => P xs (fun _ => True) m1
  | .ref n => ∃ xs, m1[n]? = some (.lst xs) ∧ P xs (fun m => m[n]? = some (.lst xs)) m1
  | _ => False := rfl
@[simp] theorem s_seqOf_t (xs : List D) : seqOf (.tup xs) m = some xs := rfl
@[simp] theorem s_seqOf_l (xs : List D) : seqOf (.lst xs) m = some xs := rfl
@[simp] theorem s_dicOf (kvs : List (Key × D)) : dicOf (.dic kvs) m = some kvs := rfl
@[simp] theorem s_lenOf_t (xs : List D) : lenOf m (.tup xs) = some xs.length := rfl
@[simp] theorem s_lenOf_l (xs : List D) : lenOf m (.lst xs) = some xs.length := rfl
@[simp] theorem s_keyI (i : Int) : keyD (.int i) = some (.inl i) := rfl
@[simp] theorem s_flatI (i : Int) : flatD (.int i) = true := rfl
@[simp] theorem s_datI (i : Int) : datOf (.int i) m = .int i := rfl
@[simp] theorem s_datN : datOf .non m = .non := rfl
@[simp] theorem s_datB (b : Bool) : datOf (.bl b) m = .bl b := rfl
@[simp] theorem s_datS (b : Str) : datOf (.str b) m = .str b := rfl
@[simp] theorem s_datT (xs : List D) : datOf (.tup xs) m = .tup xs := rfl
@[simp] theorem s_datL (xs : List D) : datOf (.lst xs) m = .lst xs := rfl
@[simp] theorem s_isNon : isNon .non = true := rfl
@[simp] theorem s_isNonI (i : Int) : isNon (.int i) = false := rfl
@[simp] theorem s_isNonO (C : Addr) (xs : List D) : isNon (.obj C xs) = false := rfl
@[simp] theorem s_ends_rt (R : D → Mu → Prop) : (endsD m R).rt = Fin m R := rfl
@[simp] theorem s_ends_nx (R : D → Mu → Prop) : (endsD m R).nx = fun _ m2 => Fin m R .non m2 := rfl
end
/-! ### what a thing is -/
section
variable {m : Mu}
@[simp] theorem s_isiI (i : Int) : isiB "int" m (.int i) = some true := rfl
@[simp] theorem s_isiIB (i : Int) : isiB "bool" m (.int i) = some false := rfl
@[simp] theorem s_isiT (xs : List D) : isiB "tuple" m (.tup xs) = some true := rfl
@[simp] theorem s_isiS (x : Str) : isiB "str" m (.str x) = some true := rfl
@[simp] theorem s_isiBB (b : Bool) : isiB "bool" m (.bl b) = some true := rfl
end
end DL
set_option Elab.async false
set_option linter.all false
set_option maxRecDepth 100000
set_option maxHeartbeats 4000000
/-! E0: the head's facts for this layer: slots, properties, own == and specials, defs at any address. -/
namespace DL
open PySem PySem.Spec PyProof.Rows L2 SlX

abbrev ga := He.ga
abbrev ma := He.ma
def eqB (a : Option Bool) (b : Bool) : Bool := match a with
  | some c => c == b
  | none => false
theorem eqB_ok {a : Option Bool} {b : Bool} (h : eqB a b = true) : a = some b := by
  cases a with
  | none => cases h
  | some c => exact congrArg some (eq_of_beq h)
def eqV (a : Option Value) (b : Value) : Bool := decide (a = some b)
theorem eqV_ok {a : Option Value} {b : Value} (h : eqV a b = true) : a = some b := of_decide_eq_true h
/-- the getter of the property f of the class x -/
def prA (K : PySem.W.Frag) (x f : Str) : Addr := match PySem.W.recIn K (ma K (ga K x) f) "property" with
  | some (.ref g :: _) => g
  | _ => 0
inductive Fb where
  | scl (x : Str)
  | slt (x f : Str) (i : Nat)
  | isi (x : Str)
  | kit (x y : Str) (b : Bool)
  | kty (x : Str)
  | eqk (x : Str)
  | spk (x m : Str)
  | fnn (x m : Str)
  | prp (x f : Str)
def Fb.ok (K : PySem.W.Frag) : Fb → Bool
  | .scl x => PySem.W.plainGet K (ga K x) Str.empty && (PySem.W.isClsIn K (ga K x) && (PySem.W.plainOver K (ga K x) && He.eqO (PySem.W.findIn K (.ref (ga K x)) "__setattr__") (some (some (.builtin "object.__setattr__")))))
  | .slt x f i => He.eqO (PySem.W.findIn K (.ref (ga K x)) f) (some (some (.ref (ma K (ga K x) f)))) && (He.eqO (PySem.W.specialIn K (.ref (ma K (ga K x) f)) "__get__") (some (some (.builtin "member_descriptor.__get__"))) &&
      (eqB (PySem.W.takesIn K (.ref (ma K (ga K x) f))) true && (eqV (PySem.W.typeIn K (.ref (ma K (ga K x) f))) (.type "member_descriptor") && (decide (PySem.W.slotIn K (ma K (ga K x) f) (ga K x) = some i) && decide (i < 1000)))))
  | .isi x => He.eqO (PySem.W.findIn K (.ref (ga K x)) "__class__") (some (some (.builtin "object.__class__"))) && (He.eqO (PySem.W.specialIn K (.builtin "object.__class__") "__get__") (some (some (.builtin "getset_descriptor.__get__"))) &&
      (eqB (PySem.W.takesIn K (.builtin "object.__class__")) true && eqB (PySem.W.mroIn K (ga K x) (.type "object")) true))
  | .kit x y b => eqB (PySem.W.kitOne K (.ref (ga K x)) (.ref (ga K y))) b
  | .kty x => ["NoneType", "bool", "int", "str", "tuple", "list", "dict"].all fun T => eqB (PySem.W.kitOne K (.type T) (.ref (ga K x))) false
  | .eqk x => He.eqO (PySem.W.findIn K (.ref (ga K x)) "__eq__") (some (some (.ref (ma K (ga K x) "__eq__")))) && (PySem.W.isFn K (.ref (ma K (ga K x) "__eq__")) &&
      (He.eqO (PySem.W.findIn K (.ref (ga K x)) "__ne__") (some (some (.builtin "object.__ne__"))) && eqB (PySem.W.mroIn K (ga K x) (.type "object")) true))
  | .spk x m => He.eqO (PySem.W.findIn K (.ref (ga K x)) m) (some (some (.ref (ma K (ga K x) m)))) && PySem.W.isFn K (.ref (ma K (ga K x) m))
  | .fnn x m => PySem.W.fnIn K (ma K (ga K x) m)
  | .prp x f => PySem.W.plainGet K (ga K x) f && (PySem.W.isClsIn K (ga K x) && (He.eqO (PySem.W.findIn K (.ref (ga K x)) f) (some (some (.ref (ma K (ga K x) f)))) &&
      (He.eqO (PySem.W.specialIn K (.ref (ma K (ga K x) f)) "__get__") (some (some (.builtin "property.__get__"))) && (eqB (PySem.W.takesIn K (.ref (ma K (ga K x) f))) true &&
        (match PySem.W.recIn K (ma K (ga K x) f) "property" with
        | some (.ref _ :: _) => true
        | _ => false)))))
section
variable {K : PySem.W.Frag}
theorem ba {a b : Bool} (h : (a && b) = true) : a = true ∧ b = true := Bool.and_eq_true_iff.mp h
theorem scl_ok {x : Str} (c : (Fb.scl x).ok K = true) : SCls K (ga K x) := by
  obtain ⟨c1, c⟩ := ba c
  obtain ⟨c2, c⟩ := ba c
  obtain ⟨c3, c4⟩ := ba c
  exact ⟨c1, c2, c3, He.eqO_ok c4⟩
theorem slt_ok {x f : Str} {i : Nat} (s : (Fb.scl x).ok K = true) (c : (Fb.slt x f i).ok K = true) : SlF K (ga K x) f i := by
  obtain ⟨c1, c⟩ := ba c
  obtain ⟨c2, c⟩ := ba c
  obtain ⟨c3, c⟩ := ba c
  obtain ⟨c4, c⟩ := ba c
  obtain ⟨c5, c6⟩ := ba c
  exact ⟨scl_ok s, _, ⟨He.eqO_ok c1, He.eqO_ok c2, eqB_ok c3, eqV_ok c4, of_decide_eq_true c5, of_decide_eq_true c6⟩⟩
theorem isi_ok {x : Str} (c : (Fb.isi x).ok K = true) : SIsi K (ga K x) := by
  obtain ⟨c1, c⟩ := ba c
  obtain ⟨c2, c⟩ := ba c
  obtain ⟨c3, c4⟩ := ba c
  exact ⟨He.eqO_ok c1, He.eqO_ok c2, eqB_ok c3, eqB_ok c4⟩
theorem isiK_ok {x y : Str} {b : Bool} (s : (Fb.scl x).ok K = true) (c : (Fb.isi x).ok K = true) (k : (Fb.kit x y b).ok K = true) : IsiK K (ga K x) (ga K y) b := ⟨scl_ok s, isi_ok c, eqB_ok k⟩
theorem isiI_ok {x y : Str} {b : Bool} (s : (He.Fa.cls x).ok K = true) (c : (Fb.isi x).ok K = true) (k : (Fb.kit x y b).ok K = true) : IsiI K (ga K x) (ga K y) b := ⟨He.cls_ok s, isi_ok c, eqB_ok k⟩
theorem kty_ok {x : Str} (c : (Fb.kty x).ok K = true) : IsiN K (ga K x) := ⟨fun T hT => eqB_ok (List.all_eq_true.mp c T hT)⟩
theorem eqk_ok {x : Str} (c : (Fb.eqk x).ok K = true) : EqK K (ga K x) (ma K (ga K x) "__eq__") := by
  obtain ⟨c1, c⟩ := ba c
  obtain ⟨c2, c⟩ := ba c
  obtain ⟨c3, c4⟩ := ba c
  exact ⟨He.eqO_ok c1, c2, He.eqO_ok c3, eqB_ok c4⟩
theorem spk_ok {x m : Str} (c : (Fb.spk x m).ok K = true) : SpK K (ga K x) m (ma K (ga K x) m) := by
  obtain ⟨c1, c2⟩ := ba c
  exact ⟨He.eqO_ok c1, c2⟩
theorem prp_ok {x f : Str} (c : (Fb.prp x f).ok K = true) : PrK K (ga K x) f (prA K x f) := by
  obtain ⟨c1, c⟩ := ba c
  obtain ⟨c2, c⟩ := ba c
  obtain ⟨c3, c⟩ := ba c
  obtain ⟨c4, c⟩ := ba c
  obtain ⟨c5, c6⟩ := ba c
  refine ⟨c1, c2, ma K (ga K x) f, He.eqO_ok c3, He.eqO_ok c4, eqB_ok c5, ?_⟩
  unfold prA
  split at c6
  · rename_i g rest q
    rw [q]
    exact ⟨rest, rfl⟩
  · cases c6
end

/-! ### defs at any address -/
structure DefA where
  adr : PySem.W.Frag → Addr
  name : Str
  qual : Str
  params : Arguments
  body : List Stmt
  scope : Scope
  kwd : List (Str × He.Dv) := []
/-- what an address, a name, a method, a getter is -/
def atG (x : Str) : PySem.W.Frag → Addr := fun K => ga K x
def atM (x m : Str) : PySem.W.Frag → Addr := fun K => ma K (ga K x) m
def atP (x f : Str) : PySem.W.Frag → Addr := fun K => prA K x f
def fnWA (K : PySem.W.Frag) (a : Addr) : He.FnW := match K.lookup a with
  | some ⟨_, _, .func fd, _⟩ => some (fd.name, fd.qualname, fd.params, fd.body, fd.scope, fd.globals, fd.closure, fd.builtins)
  | _ => none
def DefA.val (d : DefA) : He.FnW := some (d.name, d.qual, d.params, .stmts d.body, d.scope, mainGlobals, [], builtinsNs)
def DefA.kws (K : PySem.W.Frag) (d : DefA) : List (Str × V) := d.kwd.map fun q => (q.1, q.2.v K)
def DefA.ok (K : PySem.W.Frag) (d : DefA) : Bool := PySem.W.keepIn K (.ref (d.adr K)) && (match K.lookup (d.adr K) with
  | some ⟨_, _, .func fd, _⟩ => PySem.W.codeIn K fd.code d.qual && (He.dflB K fd.defaults [] && He.kwdB K fd.kwdefaults (d.kws K))
  | _ => false)
abbrev FdA (K : PySem.W.Frag) (d : DefA) (fd : FuncData) : Prop := FunD K d.name d.qual d.params d.body d.scope [] (d.kws K) (d.adr K) fd
theorem DefA.funD {K : PySem.W.Frag} {d : DefA} (e : fnWA K (d.adr K) = d.val) (c : d.ok K = true) : ∃ fd, FdA K d fd := by
  obtain ⟨kp, c2⟩ := ba c
  unfold fnWA at e
  cases q : K.lookup (d.adr K) with
  | none =>
    rw [q] at c2
    cases c2
  | some o =>
    obtain ⟨oc, od, dt, osl⟩ := o
    rw [q] at c2 e
    cases dt with
    | func fd =>
      obtain ⟨n1, n2, n3, n4, n5, n6, n7, n8, n9, n10, n11, n12, n13, n14, n15⟩ := fd
      have e2 : (some (n1, n2, n3, n4, n5, n6, n7, n15) : He.FnW) = some (d.name, d.qual, d.params, .stmts d.body, d.scope, mainGlobals, [], builtinsNs) := e
      simp only [Option.some.injEq, Prod.mk.injEq] at e2
      obtain ⟨h1, h2, h3, h4, h5, h6, h7, h8⟩ := e2
      subst h1 h2 h3 h4 h5 h6 h7 h8
      have c3 : (PySem.W.codeIn K n13 d.qual && (He.dflB K n8 [] && He.kwdB K n9 (d.kws K))) = true := c2
      obtain ⟨k1, k2⟩ := ba c3
      obtain ⟨k3, k4⟩ := ba k2
      exact ⟨_, ⟨oc, od, n8, n9, n10, n11, n12, n13, n14, osl, rfl, q, k1, He.dflB_ok k3, He.kwdB_ok k4⟩, kp⟩
    | _ => cases c2

/-! ### the Hook -/
/-- what of an object is looked at: a def's code and keyword defaults, a class's names, their values, a property's getter -/
def selO (o : Obj) : List Addr := match o.data with
  | .func fd => He.refV fd.code ++ He.refV fd.kwdefaults
  | .cls cd => [cd.ns]
  | .dict es _ => es.toList.flatMap fun e => He.refV e.val
  | .fields vs => (match o.cls with
    | .type c => if c == "property" then He.refV (vs.getD 0 .none) else []
    | _ => [])
  | _ => []
def stepA (g : Addr → Option Obj) (as : List Addr) : List Addr := as.flatMap fun a => match g a with
  | some o => selO o
  | none => []
def asA (g : Addr → Option Obj) : Nat → List Addr → List Addr
  | 0, as => as
  | n + 1, as => as ++ asA g n (stepA g as)
def asP (g : Addr → Option Obj) (n : Nat) : List Addr := asA g n [mainGlobals]
abbrev AlP : Type := Bool × List He.FnW
def okP (fa : List He.Fa) (fb : List Fb) (ds : List DefA) (tf : List He.Defn) (g : Addr → Option Obj) (K : PySem.W.Frag) : Bool := ((fa.all fun f => f.ok K) && fb.all fun f => f.ok K) && ((ds.all fun d => d.ok K) && He.tabsB g tf K)
def obsP (n : Nat) (fa : List He.Fa) (fb : List Fb) (ds : List DefA) (tf : List He.Defn) (g : Addr → Option Obj) : AlP :=
  (okP fa fb ds tf g (He.frT g (asP g n)), ds.map fun d => fnWA (He.frT g (asP g n)) (d.adr (He.frT g (asP g n))))
def valP (ds : List DefA) : AlP := (true, ds.map DefA.val)
structure SaysP (fa : List He.Fa) (fb : List Fb) (ds : List DefA) (tf : List He.Defn) (h : Heap) (K : PySem.W.Frag) : Prop where
  fa : ∀ f ∈ fa, f.ok K = true
  fb : ∀ f ∈ fb, f.ok K = true
  df : ∀ d ∈ ds, ∃ fd, FdA K d fd
  hd : ∀ p ∈ tf, PySem.W.codeHdIn K (He.cT K p).1 (He.cT K p).2 = true
  out : ∀ p ∈ tf, K.lookup (He.cT K p).2 = none
  empty : ∀ p ∈ tf, h.get? (He.cT K p).2 = some { cls := .none, data := .fields #[] }
theorem saysP_of {n : Nat} {fa : List He.Fa} {fb : List Fb} {ds : List DefA} {tf : List He.Defn} {h : Heap} (e : obsP n fa fb ds tf h.get? = valP ds) : SaysP fa fb ds tf h (He.frT h.get? (asP h.get? n)) := by
  have e1 : okP fa fb ds tf h.get? (He.frT h.get? (asP h.get? n)) = true := congrArg (fun z : AlP => z.1) e
  have e2 : ds.map (fun d => fnWA (He.frT h.get? (asP h.get? n)) (d.adr (He.frT h.get? (asP h.get? n)))) = ds.map DefA.val := congrArg (fun z : AlP => z.2) e
  obtain ⟨h12, h34⟩ := ba e1
  obtain ⟨h1, h2⟩ := ba h12
  obtain ⟨h3, h4⟩ := ba h34
  have key : ∀ p ∈ tf, PySem.W.codeHdIn (He.frT h.get? (asP h.get? n)) (He.cT (He.frT h.get? (asP h.get? n)) p).1 (He.cT (He.frT h.get? (asP h.get? n)) p).2 = true ∧ ∃ o, h.get? (He.cT (He.frT h.get? (asP h.get? n)) p).2 = some o ∧ He.emptyTab o = true := fun p hp => by
    obtain ⟨h5, h6⟩ := ba (List.all_eq_true.mp h4 p hp)
    refine ⟨h5, ?_⟩
    cases q : h.get? (He.cT (He.frT h.get? (asP h.get? n)) p).2 with
    | none =>
      rw [q] at h6
      cases h6
    | some o =>
      rw [q] at h6
      exact ⟨o, rfl, h6⟩
  refine ⟨fun f hf => List.all_eq_true.mp h1 f hf, fun f hf => List.all_eq_true.mp h2 f hf, fun d hd => ?_, fun p hp => (key p hp).1, fun p hp => ?_, fun p hp => ?_⟩
  · obtain ⟨i, hi, ei⟩ := List.mem_iff_getElem.mp hd
    have e3 : (ds.map fun d => fnWA (He.frT h.get? (asP h.get? n)) (d.adr (He.frT h.get? (asP h.get? n))))[i]? = (ds.map DefA.val)[i]? := by rw [e2]
    rw [List.getElem?_map, List.getElem?_map, List.getElem?_eq_getElem hi, ei] at e3
    exact DefA.funD (Option.some.inj e3) (List.all_eq_true.mp h3 d hd)
  · obtain ⟨_, o, q, z⟩ := key p hp
    exact He.frT_none q z
  · obtain ⟨_, o, q, z⟩ := key p hp
    rw [q, He.emptyTab_eq z]
def hookP (n : Nat) (fa : List He.Fa) (fb : List Fb) (ds : List DefA) (tf : List He.Defn) : PySem.W.Hook where
  α := AlP
  obs := fun s => obsP n fa fb ds tf s.heap.get?
  val := fun _ => valP ds
  says := fun _ h => ∃ K : PySem.W.Frag, K.In h ∧ SaysP fa fb ds tf h K
  of := fun _ _ e => ⟨_, He.frT_in, saysP_of e⟩
  keeps := fun _ _ _ ⟨K, hK, c⟩ k => ⟨K, PySem.W.Frag.In.keeps hK k, ⟨c.fa, c.fb, c.df, c.hd, c.out, fun p hp => k _ _ (c.empty p hp)⟩⟩
theorem obsP_eq {n : Nat} {fa : List He.Fa} {fb : List Fb} {ds : List DefA} {tf : List He.Defn} {g : Addr → Option Obj} {s : Shared} (h : ∀ a, g a = s.heap.get? a) : obsP n fa fb ds tf g = (hookP n fa fb ds tf).obs s := by
  have e : g = s.heap.get? := funext h
  rw [e] <;> rfl
section
variable {fa : List He.Fa} {fb : List Fb} {ds : List DefA} {tf : List He.Defn} {h : Heap} {K : PySem.W.Frag}
theorem SaysP.a (c : SaysP fa fb ds tf h K) (i : Nat) {f : He.Fa} (e : fa[i]? = some f := by rfl) : f.ok K = true := c.fa f (List.mem_of_getElem? e)
theorem SaysP.b (c : SaysP fa fb ds tf h K) (i : Nat) {f : Fb} (e : fb[i]? = some f := by rfl) : f.ok K = true := c.fb f (List.mem_of_getElem? e)
theorem SaysP.d (c : SaysP fa fb ds tf h K) (i : Nat) {d : DefA} (e : ds[i]? = some d := by rfl) : ∃ fd, FdA K d fd := c.df d (List.mem_of_getElem? e)
end
/-! ### the text: statements of the top, methods of a class -/
def topOf (P : Program) (i : Nat) : Stmt := P.main.body.getD i (.Pass ⟨0, 0, 0, 0⟩)
def clsBody : Stmt → List Stmt
  | .ClassDef _ _ _ b _ _ _ _ _ _ _ => b
  | _ => []
def mthOf (P : Program) (i j : Nat) : Stmt := (clsBody (topOf P i)).getD j (.Pass ⟨0, 0, 0, 0⟩)
def dfG (x : Str) (st : Stmt) : DefA := ⟨atG x, x, x, defArgs st, defBody st, defScope st, []⟩
def dfM (x m q : Str) (st : Stmt) (kwd : List (Str × He.Dv) := []) : DefA := ⟨atM x m, m, q, defArgs st, defBody st, defScope st, kwd⟩
def dfP (x f q : Str) (st : Stmt) : DefA := ⟨atP x f, f, q, defArgs st, defBody st, defScope st, []⟩
end DL
set_option Elab.async false
set_option linter.all false
set_option maxRecDepth 100000
set_option maxHeartbeats 4000000
/-! E1: a sign in a text; a slice as a list of the store; a def's code object. -/
namespace DL
open PySem PySem.Spec PyProof.Rows L2 SlX

section
variable {X : Cx} {pos p2 : Pos} {a b : Expr} {ta tb : TDE}
theorem od_inSign : OpD X (compareOp .In) dInSign := OpR.imp op_in_sign fun x y H Q ⟨F, G, E, m, dx, dy, R, rl, rx, ry, ⟨c, z, e1, e2, h⟩, k⟩ => by
  subst e1 e2
  cases rx
  cases ry
  exact ⟨c, z, rfl, rfl, k.val rl (.bl _) h⟩
def dCutM (x : D) (lo hi : Option Int) (m : Mu) (R : D → Mu → Prop) : Prop := ∃ xs, lsqOf x m = some xs ∧ R (.ref m.length) (m ++ [.lst (cutD xs lo hi)])
def liftSlM (K : PySem.W.Frag) : V → Option Int → Option Int → Hp → VK → Prop := fun x lo hi H Q => ∃ F G E m dx R, Rl K F G H E m ∧ Rp K F E dx x ∧ dCutM dx lo hi m R ∧ Cont K F G E R Q
theorem sl_dM : SlR X (liftSlM X.K) := by
  refine SlR.imp (sl_list (X := X)) fun x lo hi H Q ⟨F, G, E, m, dx, R, rl, rx, ⟨xs, h1, h2⟩, k⟩ => ?_
  obtain ⟨a, vs, rfl, q, rv⟩ := rl.lsq_ok rx h1
  exact ⟨a, vs, rfl, q, fun p hp => k.lstM rl (cut_rps rv lo hi) h2 hp⟩
def dSlM (ta : TDE) (tl th : TDO) : TDE := fun δ m R => ta δ m fun x m1 => tl δ m1 fun lo m2 => th δ m2 fun hi m3 => dCutM x lo hi m3 R
theorem de_sliceM {lo hi : Option Expr} {tl th : TDO} (ha : DE X a ta) (hl : DO X lo tl) (hh : DO X hi th) : DE X (.Subscript a (.Slice lo hi none p2) pos) (dSlM ta tl th) :=
  ⟨PE.imp (pe_slice sl_dM ha.pe hl.po hh.po) fun σ H Q ⟨F, G, E, m, δ, R, rl, rs, h, k⟩ => ⟨F, G, E, m, δ, _, rl, rs, h, fun x m1 F1 E1 H1 v f1 e1 rl1 rp1 h1 => ⟨F1, G, E1, m1, δ, _, rl1, rs.mono f1 e1, h1, fun o m2 F2 E2 H2 f2 e2 rl2 h2 =>
    ⟨F2, G, E2, m2, δ, _, rl2, (rs.mono f1 e1).mono f2 e2, h2, fun o' m3 F3 E3 H3 f3 e3 rl3 h3 => ⟨F3, G, E3, m3, x, R, rl3, (rp1.mono f2 e2).mono f3 e3, h3, ((k.on f1 e1).on f2 e2).on f3 e3⟩⟩⟩⟩⟩
@[simp] theorem s_dSlM (ta : TDE) (tl th : TDO) (δ m R) : dSlM ta tl th δ m R = (ta δ m fun x m1 => tl δ m1 fun lo m2 => th δ m2 fun hi m3 => dCutM x lo hi m3 R) := rfl
@[simp] theorem s_dCutM (x lo hi m R) : dCutM x lo hi m R = (∃ xs, lsqOf x m = some xs ∧ R (.ref m.length) (m ++ [.lst (cutD xs lo hi)])) := rfl
end
theorem units1 {k : Nat} {A : Around} (r : Room k A) : A.units + 1 < cLine := by
  have := r.units
  omega
theorem codeAt {K : PySem.W.Frag} {f : Str} {st : Stmt} {fd : FuncData} (F : FdA K (dfG f st) fd) : DL.codeOf K (ga K f) = some (.ref (He.cT K (f, none)).1) := by
  obtain ⟨oc, od, dV, kV, doc, pm, an, cdv, ct, osl, e, lk, hcd, _, _⟩ := F.ex
  have lk' : K.lookup (ga K f) = some ⟨oc, od, .func fd, osl⟩ := lk
  have lk2 : K.lookup (He.fAd K (f, none)) = some ⟨oc, od, .func fd, osl⟩ := lk
  obtain ⟨cc, ec⟩ := He.codeIn_ref hcd
  have e2 : fd.code = .ref cc := by rw [e]; exact ec
  show DL.codeOf K (ga K f) = some (.ref (He.codeOf K (f, none)))
  rw [He.codeOf_eq lk2 e2]
  unfold DL.codeOf
  rw [lk']
  show some fd.code = some (.ref cc)
  rw [e2]
end DL
set_option Elab.async false
set_option linter.all false
set_option maxRecDepth 100000
set_option maxHeartbeats 4000000
/-! E2: comprehensions and loops by plain functions. -/
namespace DL
open PySem PySem.Spec PyProof.Rows L2 SlX

section
variable {g g1 : TDG} {tt tt1 : TDT} {te tk tv : TDE} {ti1 : TDI} {δ : DS} {P : Mu → Prop} {m : Mu} {vs1 : List Nat}
/-- one turn: what it adds, the store as it is -/
def Turn (g : TDG) (tt : TDT) (te : TDE) (δ : DS) (m : Mu) (x : D) (o : Option D) : Prop := ∀ (A : D → Mu → Prop) (B : Mu → Prop), (match o with
  | some y => A y m
  | none => B m) → g x δ m fun δ2 m2 => tt δ2 m2 fun b m3 => if b = true then te δ2 m3 A else B m3
theorem lcL_ok {f : D → Option D} {Rd : List D → Mu → Prop} (hP : P m) : ∀ (xs acc : List D), (∀ x ∈ xs, Turn g tt te δ m x (f x)) → acc.length + xs.length ≤ sizeLine → Rd (acc ++ xs.filterMap f) m → lcL g tt te δ P Rd xs acc m
  | [], acc, _, _, h => ⟨hP, by simpa using h⟩
  | x :: xs, acc, hb, hl, h => by
    refine ⟨hP, hb x List.mem_cons_self (fun y m4 => acc.length < sizeLine ∧ lcL g tt te δ P Rd xs (acc ++ [y]) m4) (fun m3 => lcL g tt te δ P Rd xs acc m3) ?_⟩
    rw [List.length_cons] at hl
    cases e : f x with
    | some y =>
      refine ⟨by omega, lcL_ok hP xs (acc ++ [y]) (fun z hz => hb z (List.mem_cons_of_mem _ hz)) (by rw [List.length_append]; simp; omega) ?_⟩
      rw [List.filterMap_cons, e] at h
      simpa using h
    | none =>
      refine lcL_ok hP xs acc (fun z hz => hb z (List.mem_cons_of_mem _ hz)) (by omega) ?_
      rw [List.filterMap_cons, e] at h
      exact h
/-- all items are taken -/
theorem lcL_map {f : D → D} {Rd : List D → Mu → Prop} (hP : P m) {xs acc : List D} (hb : ∀ x ∈ xs, Turn g tt te δ m x (some (f x))) (hl : acc.length + xs.length ≤ sizeLine) (h : Rd (acc ++ xs.map f) m) : lcL g tt te δ P Rd xs acc m :=
  lcL_ok (f := fun x => some (f x)) hP xs acc hb hl (by
    have e : xs.filterMap (fun x => some (f x)) = xs.map f := by rw [List.filterMap_eq_map']
    rw [e]
    exact h)
/-- over a list of other things -/
theorem lcL_mapO {α : Type} {c : α → D} {f : α → D} {Rd : List D → Mu → Prop} (hP : P m) : ∀ (xs : List α) (acc : List D), (∀ x ∈ xs, Turn g tt te δ m (c x) (some (f x))) → acc.length + xs.length ≤ sizeLine → Rd (acc ++ xs.map f) m → lcL g tt te δ P Rd (xs.map c) acc m
  | [], acc, _, _, h => ⟨hP, by simpa using h⟩
  | x :: xs, acc, hb, hl, h => by
    rw [List.length_cons] at hl
    refine ⟨hP, hb x List.mem_cons_self (fun y m4 => acc.length < sizeLine ∧ lcL g tt te δ P Rd (xs.map c) (acc ++ [y]) m4) (fun m3 => lcL g tt te δ P Rd (xs.map c) acc m3) ?_⟩
    refine ⟨by omega, lcL_mapO hP xs (acc ++ [f x]) (fun z hz => hb z (List.mem_cons_of_mem _ hz)) (by rw [List.length_append]; simp; omega) ?_⟩
    simpa using h
/-- some are taken -/
theorem lcL_filO {α : Type} {c : α → D} {f : α → Option D} {Rd : List D → Mu → Prop} (hP : P m) : ∀ (xs : List α) (acc : List D), (∀ x ∈ xs, Turn g tt te δ m (c x) (f x)) → acc.length + xs.length ≤ sizeLine → Rd (acc ++ xs.filterMap f) m → lcL g tt te δ P Rd (xs.map c) acc m
  | [], acc, _, _, h => ⟨hP, by simpa using h⟩
  | x :: xs, acc, hb, hl, h => by
    rw [List.length_cons] at hl
    refine ⟨hP, hb x List.mem_cons_self (fun y m4 => acc.length < sizeLine ∧ lcL g tt te δ P Rd (xs.map c) (acc ++ [y]) m4) (fun m3 => lcL g tt te δ P Rd (xs.map c) acc m3) ?_⟩
    cases e : f x with
    | some y =>
      refine ⟨by omega, lcL_filO hP xs (acc ++ [y]) (fun z hz => hb z (List.mem_cons_of_mem _ hz)) (by rw [List.length_append]; simp; omega) ?_⟩
      rw [List.filterMap_cons, e] at h
      simpa using h
    | none =>
      refine lcL_filO hP xs acc (fun z hz => hb z (List.mem_cons_of_mem _ hz)) (by omega) ?_
      rw [List.filterMap_cons, e] at h
      exact h
/-- [y for x in xs for y in x] over tuples -/
theorem lcL_id {j : Nat} {δ : DS} {Rd : List D → Mu → Prop} (hj : j < δ.length) (hP : P m) {xs acc : List D} (hl : acc.length + xs.length ≤ sizeLine) (h : Rd (acc ++ xs) m) : lcL (dName j) dYes (dVar j) δ P Rd xs acc m :=
  lcL_map (f := fun x => x) hP (fun x _ A B hA => ⟨x, by rw [List.getElem?_set_self hj], hA⟩) hl (by rw [List.map_id']; exact h)
theorem lc2_flat {i j : Nat} {δ : DS} {Rd : List D → Mu → Prop} (hi : i < δ.length) (hj : j < δ.length) (hij : i ≠ j) (hP : P m) : ∀ (bs : List (List D)) (acc : List D), acc.length + bs.flatten.length ≤ sizeLine → Rd (acc ++ bs.flatten) m →
    lcL2 (dName i) dYes (dISeq (dVar i)) (dName j) dYes (dVar j) δ [j] P Rd (bs.map D.tup) acc m
  | [], acc, _, h => ⟨hP, by simpa using h⟩
  | b :: bs, acc, hl, h => by
    rw [List.flatten_cons, List.length_append] at hl
    refine ⟨hP, ?_⟩
    rw [s_dName, s_dYes, if_pos rfl]
    refine ⟨.tup b, by rw [List.getElem?_set_self hi], ?_⟩
    refine lcL_id (by rw [dwipe_length, List.length_set]; exact hj) trivial (by omega) ?_
    refine lc2_flat hi hj hij hP bs (acc ++ b) (by rw [List.length_append]; omega) ?_
    rw [List.flatten_cons, ← List.append_assoc] at h
    exact h
/-- dicts: one key a turn -/
def TurnK (g : TDG) (tt : TDT) (tk tv : TDE) (δ : DS) (m : Mu) (x : D) (o : Option (Key × D)) : Prop := ∀ (A : D → D → Mu → Prop) (B : Mu → Prop), (match o with
  | some (k, z) => A (kD k) z m
  | none => B m) → g x δ m fun δ2 m2 => tt δ2 m2 fun b m3 => if b = true then tk δ2 m3 fun y m4 => tv δ2 m4 fun z m5 => A y z m5 else B m3
theorem keyD_kD (k : Key) : keyD (kD k) = some k := by cases k <;> rfl
theorem dcL_ok {α : Type} {c : α → D} {f : α → Option (Key × D)} {Rd : List (Key × D) → Mu → Prop} (hP : P m) : ∀ (xs : List α) (acc : List (Key × D)), (∀ x ∈ xs, TurnK g tt tk tv δ m (c x) (f x)) → acc.length + xs.length ≤ sizeLine → Rd ((xs.filterMap f).foldl (fun acc kv => ptD acc kv.1 kv.2) acc) m →
    dcL g tt tk tv δ P Rd (xs.map c) acc m
  | [], acc, _, _, h => ⟨hP, by simpa using h⟩
  | x :: xs, acc, hb, hl, h => by
    rw [List.length_cons] at hl
    refine ⟨hP, hb x List.mem_cons_self (fun y z m5 => ∃ k, keyD y = some k ∧ acc.length < sizeLine ∧ dcL g tt tk tv δ P Rd (xs.map c) (ptD acc k z) m5) (fun m3 => dcL g tt tk tv δ P Rd (xs.map c) acc m3) ?_⟩
    cases e : f x with
    | some q =>
      obtain ⟨k, z⟩ := q
      rw [List.filterMap_cons, e] at h
      refine ⟨k, keyD_kD k, by omega, dcL_ok hP xs (ptD acc k z) (fun y hy => hb y (List.mem_cons_of_mem _ hy)) ?_ h⟩
      have : (ptD acc k z).length ≤ acc.length + 1 := by
        unfold ptD
        split
        · rw [List.length_map]; omega
        · rw [List.length_append]; simp
      omega
    | none =>
      rw [List.filterMap_cons, e] at h
      exact dcL_ok hP xs acc (fun y hy => hb y (List.mem_cons_of_mem _ hy)) (by omega) h
end
/-- a loop with what stays true: I k: behind k turns -/
theorem forL_inv {g : TDG} {tb : TDS} {D1 : DEnds} {P : Mu → Prop} (I : List D → DS → Mu → Prop) (h0 : ∀ xs δ m, I xs δ m → P m) (hE : ∀ δ m, I [] δ m → D1.nx δ m)
    (hs : ∀ x xs δ m, I (x :: xs) δ m → ∀ N : DS → Mu → Prop, (∀ δ' m', I xs δ' m' → N δ' m') → g x δ m fun δ2 m2 => tb { D1 with nx := N, ct := N, bk := D1.nx } δ2 m2) : ∀ xs δ m, I xs δ m → forL g tb D1 P xs δ m
  | [], δ, m, h => ⟨h0 _ _ _ h, hE _ _ h⟩
  | x :: xs, δ, m, h => ⟨h0 _ _ _ h, hs x xs δ m h (forL g tb D1 P xs) fun δ' m' h' => forL_inv I h0 hE hs xs δ' m' h'⟩
end DL
set_option Elab.async false
set_option linter.all false
set_option maxRecDepth 100000
set_option maxHeartbeats 4000000
/-! E3: == of texts; a list == []. -/
namespace DL
open PySem PySem.Spec PyProof.Rows L2 SlX

section
variable {X : Cx}
def dEqS : DR2 := fun x y m R => ∃ a b : Str, x = .str a ∧ y = .str b ∧ R (.bl (decide (a = b))) m
def dNeS : DR2 := fun x y m R => ∃ a b : Str, x = .str a ∧ y = .str b ∧ R (.bl (!decide (a = b))) m
theorem od_eqS : OpD X (compareOp .Eq) dEqS := OpR.imp op_eq fun x y H Q ⟨F, G, E, m, dx, dy, R, rl, rx, ry, ⟨a, b, e1, e2, h⟩, k⟩ => by
  subst e1 e2
  cases rx
  cases ry
  refine ⟨rfl, ?_⟩
  rw [show decide (V.str a = V.str b) = decide (a = b) by rw [Bool.eq_iff_iff]; simp]
  exact k.val rl (.bl _) h
theorem od_neS : OpD X (compareOp .NotEq) dNeS := OpR.imp op_ne fun x y H Q ⟨F, G, E, m, dx, dy, R, rl, rx, ry, ⟨a, b, e1, e2, h⟩, k⟩ => by
  subst e1 e2
  cases rx
  cases ry
  refine ⟨rfl, ?_⟩
  rw [show decide (V.str a = V.str b) = decide (a = b) by rw [Bool.eq_iff_iff]; simp]
  exact k.val rl (.bl _) h
@[simp] theorem s_dEqS (a b : Str) (m R) : dEqS (.str a) (.str b) m R = R (.bl (decide (a = b))) m := propext ⟨fun ⟨_, _, e1, e2, h⟩ => by cases e1; cases e2; exact h, fun h => ⟨a, b, rfl, rfl, h⟩⟩
@[simp] theorem s_dNeS (a b : Str) (m R) : dNeS (.str a) (.str b) m R = R (.bl (!decide (a = b))) m := propext ⟨fun ⟨_, _, e1, e2, h⟩ => by cases e1; cases e2; exact h, fun h => ⟨a, b, rfl, rfl, h⟩⟩
/-- xs == [], whatever stands in xs -/
def rEqNil (K : PySem.W.Frag) : R2 := fun x y H Q => ∃ a b vs, x = .ref a ∧ y = .ref b ∧ SqL K H a vs ∧ SqL K H b [] ∧ Q (.bl vs.isEmpty) H
theorem op_eqNil (hu : X.A.units < cLine) : OpR X (compareOp .Eq) (rEqNil X.K) := by
  intro pins s σ H x y v u Q I rx ry ⟨a, b, vs, e1, e2, q1, q2, q⟩
  subst e1 e2
  obtain rfl : v = Value.ref a := rx
  obtain rfl : u = Value.ref b := ry
  obtain ⟨its, o, n, rv, g, c, d⟩ := sqL_at I.hok I.kIn q1
  obtain ⟨its2, o2, n2, rv2, g2, c2, d2⟩ := sqL_at I.hok I.kIn q2
  have e2 : its2 = [] := by cases rv2; rfl
  subst e2
  have hl : s.heap.IsList a its.toArray := ⟨o, g, c, n, d⟩
  have hb : s.heap.IsList b #[] := ⟨o2, g2, c2, n2, d2⟩
  have fin : EP X pins σ Q (.bool vs.isEmpty) s := ⟨.bl vs.isEmpty, H, I, rfl, q⟩
  cases rv with
  | nil => exact SeqAt.rcP_lists (e := fun _ => true) hl hb rfl hu (fun j h1 h2 => by simp at h1) _ _ (by simpa using fin)
  | cons r t =>
    obtain ⟨cls, dd, data, sl⟩ := o
    obtain ⟨cls2, dd2, data2, sl2⟩ := o2
    simp only at c d c2 d2
    subst c d c2 d2
    exact wpAny_richCompare_same_room (op := .Eq) ⟨_, g, rfl⟩ ⟨_, g2, rfl⟩ F.slot_list_eq (call_meets F.slot_list_eq ⟨_, g, rfl⟩ F.entry_list_eq (F.args_list_eq_2 _ _) (SeqAt.list_eq_lengthsAt a b _ _ n n2 dd dd2 sl sl2 (by simp))
      ⟨g, g2, show Value.bool false ≠ Value.notImplemented ∧ _ from ⟨(fun x => nomatch x), by simpa using fin⟩⟩) hu
/-- found == [] -/
def dEqNil : DR2 := fun x y m R => ∃ xs, lsqOf x m = some xs ∧ lsqOf y m = some [] ∧ R (.bl xs.isEmpty) m
theorem od_eqNil (hu : X.A.units < cLine) : OpD X (compareOp .Eq) dEqNil := OpR.imp (op_eqNil hu) fun x y H Q ⟨F, G, E, m, dx, dy, R, rl, rx, ry, ⟨xs, e1, e2, h⟩, k⟩ => by
  obtain ⟨a, vs, rfl, q, rv⟩ := rl.lsq_ok rx e1
  obtain ⟨b, ws, rfl, q2, rw2⟩ := rl.lsq_ok ry e2
  cases rw2
  refine ⟨a, b, vs, rfl, rfl, q, q2, ?_⟩
  rw [← isEmpty_rps rv]
  exact k.val rl (.bl _) h
@[simp] theorem s_dEqNil (x y m R) : dEqNil x y m R = (∃ xs, lsqOf x m = some xs ∧ lsqOf y m = some [] ∧ R (.bl xs.isEmpty) m) := rfl
theorem op_neNil (hu : X.A.units < cLine) : OpR X (compareOp .NotEq) (fun x y H Q => ∃ a b vs, x = .ref a ∧ y = .ref b ∧ SqL X.K H a vs ∧ SqL X.K H b [] ∧ Q (.bl (!vs.isEmpty)) H) := by
  intro pins s σ H x y v u Q I rx ry ⟨a, b, vs, e1, e2, q1, q2, q⟩
  subst e1 e2
  obtain rfl : v = Value.ref a := rx
  obtain rfl : u = Value.ref b := ry
  obtain ⟨its, o, n, rv, g, c, d⟩ := sqL_at I.hok I.kIn q1
  obtain ⟨its2, o2, n2, rv2, g2, c2, d2⟩ := sqL_at I.hok I.kIn q2
  have e2 : its2 = [] := by cases rv2; rfl
  subst e2
  have fin : EP X pins σ Q (.bool (!vs.isEmpty)) s := ⟨.bl (!vs.isEmpty), H, I, rfl, q⟩
  obtain ⟨cls, dd, data, sl⟩ := o
  obtain ⟨cls2, dd2, data2, sl2⟩ := o2
  simp only at c d c2 d2
  subst c d c2 d2
  cases rv with
  | nil =>
    exact wpAny_richCompare_same_room (op := .NotEq) ⟨_, g, rfl⟩ ⟨_, g2, rfl⟩ F.slot_list_ne (call_meets F.slot_list_ne ⟨_, g, rfl⟩ F.entry_list_ne (F.args_list_ne_2 _ _) (SeqAt.list_neAt a b _ _ n n2 dd dd2 sl sl2 rfl (fun _ => true))
      ⟨g, g2, fun j h1 h2 => by simp at h1, show Value.bool _ ≠ Value.notImplemented ∧ _ from ⟨(fun x => nomatch x), by simpa using fin⟩⟩) hu
  | cons r t =>
    exact wpAny_richCompare_same_room (op := .NotEq) ⟨_, g, rfl⟩ ⟨_, g2, rfl⟩ F.slot_list_ne (call_meets F.slot_list_ne ⟨_, g, rfl⟩ F.entry_list_ne (F.args_list_ne_2 _ _) (SeqAt.list_ne_lengthsAt a b _ _ n n2 dd dd2 sl sl2 (by simp))
      ⟨g, g2, show Value.bool true ≠ Value.notImplemented ∧ _ from ⟨(fun x => nomatch x), by simpa using fin⟩⟩) hu
def dNeNil : DR2 := fun x y m R => ∃ xs, lsqOf x m = some xs ∧ lsqOf y m = some [] ∧ R (.bl (!xs.isEmpty)) m
theorem od_neNil (hu : X.A.units < cLine) : OpD X (compareOp .NotEq) dNeNil := OpR.imp (op_neNil hu) fun x y H Q ⟨F, G, E, m, dx, dy, R, rl, rx, ry, ⟨xs, e1, e2, h⟩, k⟩ => by
  obtain ⟨a, vs, rfl, q, rv⟩ := rl.lsq_ok rx e1
  obtain ⟨b, ws, rfl, q2, rw2⟩ := rl.lsq_ok ry e2
  cases rw2
  refine ⟨a, b, vs, rfl, rfl, q, q2, ?_⟩
  rw [← isEmpty_rps rv]
  exact k.val rl (.bl _) h
@[simp] theorem s_dNeNil (x y m R) : dNeNil x y m R = (∃ xs, lsqOf x m = some xs ∧ lsqOf y m = some [] ∧ R (.bl (!xs.isEmpty)) m) := rfl
end
end DL
set_option Elab.async false
set_option linter.all false
set_option maxRecDepth 100000
set_option maxHeartbeats 0
namespace W82
open PySem PySem.Spec PyProof.Rows L2 SlX DL
abbrev PG : Program := PySem.Challenge.pw_fewnames_k82_whole_tables_replayed_from
abbrev RG : PySem.W.OpenRow := PySem.W.OpenLaw.row PySem.Challenge.rw_fewnames_k82_whole_tables_replayed_from
def fa0 : List He.Fa := [.glo "is_integer", .glo "is_between", .glo "is_old_name", .glo "are_old_names", .glo "are_threads", .glo "require_threads", .glo "are_blocks", .glo "place_of", .glo "seen_by", .glo "are_rounds", .glo "require_run", .glo "first_seats", .glo "seats_behind", .glo "is_waiting", .glo "is_number_text", .glo "are_number_texts"]
def fa1 : List He.Fa := [.glo "numbers_in", .glo "names_text", .glo "run_text", .glo "write_run", .glo "require_text", .glo "require_pieces", .glo "is_round_text", .glo "made_round", .glo "require_found", .glo "made_run", .glo "read_run", .glo "_law_filled", .glo "_law_dip", .glo "_law_choose", .glo "_law_shuffled", .glo "_law_old_names"]
def fa2 : List He.Fa := [.glo "_law_blocks", .glo "_law_standing", .glo "_law_replayed_right", .glo "_law_finished_right", .glo "_law_right", .glo "law", .glo "Round", .glo "Run", .glo "Seat", .glo "Standing", .glo "Table", .glo "FewError", .free "isinstance", .free "int", .free "bool", .free "tuple"]
def fa3 : List He.Fa := [.free "all", .free "any", .free "list", .free "sorted", .free "set", .free "len", .free "str", .free "next", .free "enumerate", .free "range", .free "repr", .free "abs", .free "max", .free "min", .free "dict", .int "MAX_THREADS" 5]
def fa4 : List He.Fa := [.int "GREATEST" 1000000000000000000000000000000000000000000000000000000000000, .int "MAX_ROUNDS" 6, .int "FIRST" 1, .int "UPWARDS" 1, .str "BAR" "|", .str "COMMA" ", ", .str "NONE" "none ", .str "DIGITS" "0123456789", .cls "Table", .noat "Table" "own_threads", .noat "Table" "own_running", .noat "Table" "own_names", .noat "Table" "own_seats", .noat "Table" "own_run", .noat "Table" "own_past", .mkr "Round"]
def fa5 : List He.Fa := [.mkr "Run", .mkr "Seat", .mkr "Standing", .mkr "Table", .meth "Seat" "greatest_name", .meth "Seat" "next_seat", .meth "Table" "keep_now", .meth "Table" "go", .meth "Table" "stop", .meth "Table" "finish", .meth "Table" "undo", .meth "Table" "twin"]
def fa : List He.Fa := fa0 ++ fa1 ++ fa2 ++ fa3 ++ fa4 ++ fa5
def fb0 : List Fb := [.scl "Round", .scl "Run", .scl "Seat", .scl "Standing", .slt "Round" "own_blocks" 0, .slt "Round" "own_sign" 1, .slt "Round" "own_size" 2, .slt "Round" "own_threads" 3, .slt "Run" "own_rounds" 0, .slt "Run" "own_sign" 1, .slt "Run" "own_threads" 2, .slt "Seat" "own_direction" 0, .slt "Seat" "own_first" 1, .slt "Seat" "own_past" 2, .slt "Standing" "held_names" 0, .slt "Standing" "held_run" 1]
def fb1 : List Fb := [.slt "Standing" "held_running" 2, .slt "Standing" "held_seats" 3, .isi "Round", .isi "Run", .isi "Table", .kit "Round" "Round" true, .kit "Run" "Run" true, .kit "Table" "Table" true, .eqk "Round", .eqk "Run", .eqk "Table", .spk "Round" "__str__", .spk "Run" "__len__", .spk "Run" "__getitem__", .spk "Table" "__bool__", .spk "Table" "__len__"]
def fb2 : List Fb := [.spk "Table" "__str__", .fnn "Run" "__getitem__", .prp "Table" "threads", .prp "Table" "running", .prp "Table" "names", .prp "Table" "places", .prp "Table" "run"]
def fb : List Fb := fb0 ++ fb1 ++ fb2
def ds0 : List DefA := [dfG "is_integer" (topOf PG 14), dfG "is_between" (topOf PG 15), dfG "is_old_name" (topOf PG 16), dfG "are_old_names" (topOf PG 17), dfG "are_threads" (topOf PG 18), dfG "require_threads" (topOf PG 19), dfG "are_blocks" (topOf PG 20), dfG "place_of" (topOf PG 23), dfG "seen_by" (topOf PG 24), dfG "are_rounds" (topOf PG 27), dfG "require_run" (topOf PG 29), dfG "first_seats" (topOf PG 36), dfG "seats_behind" (topOf PG 37), dfG "is_waiting" (topOf PG 41), dfG "is_number_text" (topOf PG 47), dfG "are_number_texts" (topOf PG 48)]
def ds1 : List DefA := [dfG "numbers_in" (topOf PG 49), dfG "names_text" (topOf PG 50), dfG "run_text" (topOf PG 51), dfG "write_run" (topOf PG 52), dfG "require_text" (topOf PG 53), dfG "require_pieces" (topOf PG 54), dfG "is_round_text" (topOf PG 55), dfG "made_round" (topOf PG 56), dfG "require_found" (topOf PG 57), dfG "made_run" (topOf PG 58), dfG "read_run" (topOf PG 59), dfG "_law_filled" (topOf PG 61), dfG "_law_dip" (topOf PG 62), dfG "_law_choose" (topOf PG 63), dfG "_law_shuffled" (topOf PG 64), dfG "_law_old_names" (topOf PG 65)]
def ds2 : List DefA := [dfG "_law_blocks" (topOf PG 66), dfG "_law_standing" (topOf PG 67), dfG "_law_replayed_right" (topOf PG 68), dfG "_law_finished_right" (topOf PG 69), dfG "_law_right" (topOf PG 70), dfG "law" (topOf PG 71), dfM "Round" "__init__" "Round.__init__" (mthOf PG 21 1), dfM "Round" "__eq__" "Round.__eq__" (mthOf PG 21 14), dfM "Round" "__str__" "Round.__str__" (mthOf PG 21 15), dfM "Run" "__init__" "Run.__init__" (mthOf PG 28 1), dfM "Run" "__getitem__" "Run.__getitem__" (mthOf PG 28 11), dfM "Run" "__len__" "Run.__len__" (mthOf PG 28 13), dfM "Run" "__eq__" "Run.__eq__" (mthOf PG 28 14), dfM "Seat" "__init__" "Seat.__init__" (mthOf PG 35 1), dfM "Seat" "greatest_name" "Seat.greatest_name" (mthOf PG 35 2), dfM "Seat" "next_seat" "Seat.next_seat" (mthOf PG 35 3)]
def ds3 : List DefA := [dfM "Standing" "__init__" "Standing.__init__" (mthOf PG 39 1), dfM "Table" "__init__" "Table.__init__" (mthOf PG 40 0), dfM "Table" "keep_now" "Table.keep_now" (mthOf PG 40 6), dfM "Table" "go" "Table.go" (mthOf PG 40 7), dfM "Table" "stop" "Table.stop" (mthOf PG 40 8), dfM "Table" "finish" "Table.finish" (mthOf PG 40 9) [("joint", .bl true)], dfM "Table" "undo" "Table.undo" (mthOf PG 40 10) [("many", .int 1)], dfM "Table" "twin" "Table.twin" (mthOf PG 40 11), dfM "Table" "__bool__" "Table.__bool__" (mthOf PG 40 12), dfM "Table" "__len__" "Table.__len__" (mthOf PG 40 14), dfM "Table" "__eq__" "Table.__eq__" (mthOf PG 40 15), dfM "Table" "__str__" "Table.__str__" (mthOf PG 40 16), dfP "Table" "threads" "Table.threads" (mthOf PG 40 1), dfP "Table" "running" "Table.running" (mthOf PG 40 2), dfP "Table" "names" "Table.names" (mthOf PG 40 3), dfP "Table" "places" "Table.places" (mthOf PG 40 4)]
def ds4 : List DefA := [dfP "Table" "run" "Table.run" (mthOf PG 40 5)]
def ds : List DefA := ds0 ++ ds1 ++ ds2 ++ ds3 ++ ds4
def names0 : List PySem.Str := ["_wall", "__name__", "FewError", "InvalidThreads", "InvalidRound", "InvalidRun", "InvalidOperation", "ParseError", "InvalidNumber", "NothingToUndo", "TooMany", "MAX_THREADS", "GREATEST", "is_integer", "is_between", "is_old_name"]
def names1 : List PySem.Str := ["are_old_names", "are_threads", "require_threads", "are_blocks", "Round", "require_one", "place_of", "seen_by", "MAX_ROUNDS", "are_rounds", "Run", "require_run", "require_thread", "run_without", "FIRST", "UPWARDS"]
def names2 : List PySem.Str := ["Seat", "first_seats", "seats_behind", "Standing", "Table", "is_waiting", "BAR", "COMMA", "NONE", "DIGITS", "is_number_text", "are_number_texts", "numbers_in", "names_text", "run_text", "write_run"]
def names3 : List PySem.Str := ["require_text", "require_pieces", "is_round_text", "made_round", "require_found", "made_run", "read_run", "_law_filled", "_law_dip", "_law_choose", "_law_shuffled", "_law_old_names", "_law_blocks", "_law_standing", "_law_replayed_right", "_law_finished_right"]
def names4 : List PySem.Str := ["_law_right"]
def names : List PySem.Str := names0 ++ names1 ++ names2 ++ names3 ++ names4
def tf : List He.Defn := [("place_of", none), ("require_pieces", none)]
abbrev hk : PySem.W.Hook := hookP 5 fa fb ds tf
def ob (s : PySem.W.SharedT) : AlP := obsP 5 fa fb ds tf (HandSHeadRun.getT s)
theorem ob_eq (s : PySem.W.SharedT) : ob s = hk.obs s.abs := obsP_eq (HandSHeadRun.getT_eq s)
end W82
set_option Elab.async false
set_option linter.all false
set_option maxRecDepth 100000
set_option maxHeartbeats 0
namespace W82
open PySem PySem.Spec PyProof.Rows L2 SlX DL
theorem run (w : World) : HandSHeadRun.RunEq RG (PySem.W.view RG.prog [71]) hk ob 8000 names w := by
  intro os
  kernel_rfl
end W82
set_option Elab.async false
set_option linter.all false
set_option maxRecDepth 100000
set_option maxHeartbeats 4000000
namespace W82
open PySem PySem.Spec PyProof.Rows L2 SlX DL
structure Kn (K : PySem.W.Frag) (mg : Str → Option Value) (base h : Heap) : Prop where
  c : SaysP fa fb ds tf h K
  x : K.In base
  g : base.Ns mainGlobals mg
  tb : ∀ p ∈ tf, GxR.TabB base mg (He.cT K p).1 (He.cT K p).2
section
variable {w : World} {K : PySem.W.Frag} {mg : Str → Option Value} {base h : Heap} (k : Kn K mg base h)
include k
theorem Kn.g_is_integer : mg "is_integer" = some (.ref (ga K "is_integer")) := He.glo_ok k.x k.g (k.c.a 0)
theorem Kn.g_is_between : mg "is_between" = some (.ref (ga K "is_between")) := He.glo_ok k.x k.g (k.c.a 1)
theorem Kn.g_is_old_name : mg "is_old_name" = some (.ref (ga K "is_old_name")) := He.glo_ok k.x k.g (k.c.a 2)
theorem Kn.g_are_old_names : mg "are_old_names" = some (.ref (ga K "are_old_names")) := He.glo_ok k.x k.g (k.c.a 3)
theorem Kn.g_are_threads : mg "are_threads" = some (.ref (ga K "are_threads")) := He.glo_ok k.x k.g (k.c.a 4)
theorem Kn.g_require_threads : mg "require_threads" = some (.ref (ga K "require_threads")) := He.glo_ok k.x k.g (k.c.a 5)
theorem Kn.g_are_blocks : mg "are_blocks" = some (.ref (ga K "are_blocks")) := He.glo_ok k.x k.g (k.c.a 6)
theorem Kn.g_place_of : mg "place_of" = some (.ref (ga K "place_of")) := He.glo_ok k.x k.g (k.c.a 7)
theorem Kn.g_seen_by : mg "seen_by" = some (.ref (ga K "seen_by")) := He.glo_ok k.x k.g (k.c.a 8)
theorem Kn.g_are_rounds : mg "are_rounds" = some (.ref (ga K "are_rounds")) := He.glo_ok k.x k.g (k.c.a 9)
theorem Kn.g_require_run : mg "require_run" = some (.ref (ga K "require_run")) := He.glo_ok k.x k.g (k.c.a 10)
theorem Kn.g_first_seats : mg "first_seats" = some (.ref (ga K "first_seats")) := He.glo_ok k.x k.g (k.c.a 11)
theorem Kn.g_seats_behind : mg "seats_behind" = some (.ref (ga K "seats_behind")) := He.glo_ok k.x k.g (k.c.a 12)
theorem Kn.g_is_waiting : mg "is_waiting" = some (.ref (ga K "is_waiting")) := He.glo_ok k.x k.g (k.c.a 13)
theorem Kn.g_is_number_text : mg "is_number_text" = some (.ref (ga K "is_number_text")) := He.glo_ok k.x k.g (k.c.a 14)
theorem Kn.g_are_number_texts : mg "are_number_texts" = some (.ref (ga K "are_number_texts")) := He.glo_ok k.x k.g (k.c.a 15)
theorem Kn.g_numbers_in : mg "numbers_in" = some (.ref (ga K "numbers_in")) := He.glo_ok k.x k.g (k.c.a 16)
theorem Kn.g_names_text : mg "names_text" = some (.ref (ga K "names_text")) := He.glo_ok k.x k.g (k.c.a 17)
theorem Kn.g_run_text : mg "run_text" = some (.ref (ga K "run_text")) := He.glo_ok k.x k.g (k.c.a 18)
theorem Kn.g_write_run : mg "write_run" = some (.ref (ga K "write_run")) := He.glo_ok k.x k.g (k.c.a 19)
theorem Kn.g_require_text : mg "require_text" = some (.ref (ga K "require_text")) := He.glo_ok k.x k.g (k.c.a 20)
theorem Kn.g_require_pieces : mg "require_pieces" = some (.ref (ga K "require_pieces")) := He.glo_ok k.x k.g (k.c.a 21)
theorem Kn.g_is_round_text : mg "is_round_text" = some (.ref (ga K "is_round_text")) := He.glo_ok k.x k.g (k.c.a 22)
theorem Kn.g_made_round : mg "made_round" = some (.ref (ga K "made_round")) := He.glo_ok k.x k.g (k.c.a 23)
theorem Kn.g_require_found : mg "require_found" = some (.ref (ga K "require_found")) := He.glo_ok k.x k.g (k.c.a 24)
theorem Kn.g_made_run : mg "made_run" = some (.ref (ga K "made_run")) := He.glo_ok k.x k.g (k.c.a 25)
theorem Kn.g_read_run : mg "read_run" = some (.ref (ga K "read_run")) := He.glo_ok k.x k.g (k.c.a 26)
theorem Kn.g__law_filled : mg "_law_filled" = some (.ref (ga K "_law_filled")) := He.glo_ok k.x k.g (k.c.a 27)
theorem Kn.g__law_dip : mg "_law_dip" = some (.ref (ga K "_law_dip")) := He.glo_ok k.x k.g (k.c.a 28)
theorem Kn.g__law_choose : mg "_law_choose" = some (.ref (ga K "_law_choose")) := He.glo_ok k.x k.g (k.c.a 29)
theorem Kn.g__law_shuffled : mg "_law_shuffled" = some (.ref (ga K "_law_shuffled")) := He.glo_ok k.x k.g (k.c.a 30)
theorem Kn.g__law_old_names : mg "_law_old_names" = some (.ref (ga K "_law_old_names")) := He.glo_ok k.x k.g (k.c.a 31)
theorem Kn.g__law_blocks : mg "_law_blocks" = some (.ref (ga K "_law_blocks")) := He.glo_ok k.x k.g (k.c.a 32)
theorem Kn.g__law_standing : mg "_law_standing" = some (.ref (ga K "_law_standing")) := He.glo_ok k.x k.g (k.c.a 33)
theorem Kn.g__law_replayed_right : mg "_law_replayed_right" = some (.ref (ga K "_law_replayed_right")) := He.glo_ok k.x k.g (k.c.a 34)
theorem Kn.g__law_finished_right : mg "_law_finished_right" = some (.ref (ga K "_law_finished_right")) := He.glo_ok k.x k.g (k.c.a 35)
theorem Kn.g__law_right : mg "_law_right" = some (.ref (ga K "_law_right")) := He.glo_ok k.x k.g (k.c.a 36)
theorem Kn.g_law : mg "law" = some (.ref (ga K "law")) := He.glo_ok k.x k.g (k.c.a 37)
theorem Kn.g_Round : mg "Round" = some (.ref (ga K "Round")) := He.glo_ok k.x k.g (k.c.a 38)
theorem Kn.g_Run : mg "Run" = some (.ref (ga K "Run")) := He.glo_ok k.x k.g (k.c.a 39)
theorem Kn.g_Seat : mg "Seat" = some (.ref (ga K "Seat")) := He.glo_ok k.x k.g (k.c.a 40)
theorem Kn.g_Standing : mg "Standing" = some (.ref (ga K "Standing")) := He.glo_ok k.x k.g (k.c.a 41)
theorem Kn.g_Table : mg "Table" = some (.ref (ga K "Table")) := He.glo_ok k.x k.g (k.c.a 42)
theorem Kn.g_FewError : mg "FewError" = some (.ref (ga K "FewError")) := He.glo_ok k.x k.g (k.c.a 43)
theorem Kn.f_isinstance : mg "isinstance" = none := He.free_ok k.x k.g (k.c.a 44)
theorem Kn.f_int : mg "int" = none := He.free_ok k.x k.g (k.c.a 45)
theorem Kn.f_bool : mg "bool" = none := He.free_ok k.x k.g (k.c.a 46)
theorem Kn.f_tuple : mg "tuple" = none := He.free_ok k.x k.g (k.c.a 47)
theorem Kn.f_all : mg "all" = none := He.free_ok k.x k.g (k.c.a 48)
theorem Kn.f_any : mg "any" = none := He.free_ok k.x k.g (k.c.a 49)
theorem Kn.f_list : mg "list" = none := He.free_ok k.x k.g (k.c.a 50)
theorem Kn.f_sorted : mg "sorted" = none := He.free_ok k.x k.g (k.c.a 51)
theorem Kn.f_set : mg "set" = none := He.free_ok k.x k.g (k.c.a 52)
theorem Kn.f_len : mg "len" = none := He.free_ok k.x k.g (k.c.a 53)
theorem Kn.f_str : mg "str" = none := He.free_ok k.x k.g (k.c.a 54)
theorem Kn.f_next : mg "next" = none := He.free_ok k.x k.g (k.c.a 55)
theorem Kn.f_enumerate : mg "enumerate" = none := He.free_ok k.x k.g (k.c.a 56)
theorem Kn.f_range : mg "range" = none := He.free_ok k.x k.g (k.c.a 57)
theorem Kn.f_repr : mg "repr" = none := He.free_ok k.x k.g (k.c.a 58)
theorem Kn.f_abs : mg "abs" = none := He.free_ok k.x k.g (k.c.a 59)
theorem Kn.f_max : mg "max" = none := He.free_ok k.x k.g (k.c.a 60)
theorem Kn.f_min : mg "min" = none := He.free_ok k.x k.g (k.c.a 61)
theorem Kn.f_dict : mg "dict" = none := He.free_ok k.x k.g (k.c.a 62)
theorem Kn.i_MAX_THREADS : ∃ t, mg "MAX_THREADS" = some (.int 5 t) := He.int_ok k.x k.g (k.c.a 63)
theorem Kn.i_GREATEST : ∃ t, mg "GREATEST" = some (.int 1000000000000000000000000000000000000000000000000000000000000 t) := He.int_ok k.x k.g (k.c.a 64)
theorem Kn.i_MAX_ROUNDS : ∃ t, mg "MAX_ROUNDS" = some (.int 6 t) := He.int_ok k.x k.g (k.c.a 65)
theorem Kn.i_FIRST : ∃ t, mg "FIRST" = some (.int 1 t) := He.int_ok k.x k.g (k.c.a 66)
theorem Kn.i_UPWARDS : ∃ t, mg "UPWARDS" = some (.int 1 t) := He.int_ok k.x k.g (k.c.a 67)
theorem Kn.s_BAR : ∃ t, mg "BAR" = some (.str "|" t) := He.str_ok k.x k.g (k.c.a 68)
theorem Kn.s_COMMA : ∃ t, mg "COMMA" = some (.str ", " t) := He.str_ok k.x k.g (k.c.a 69)
theorem Kn.s_NONE : ∃ t, mg "NONE" = some (.str "none " t) := He.str_ok k.x k.g (k.c.a 70)
theorem Kn.s_DIGITS : ∃ t, mg "DIGITS" = some (.str "0123456789" t) := He.str_ok k.x k.g (k.c.a 71)
theorem Kn.c_Table : Cls K (ga K "Table") := He.cls_ok (k.c.a 72)
theorem Kn.a_Table_own_threads : InF K (ga K "Table") "own_threads" := ⟨k.c_Table, He.noat_ok (k.c.a 73)⟩
theorem Kn.a_Table_own_running : InF K (ga K "Table") "own_running" := ⟨k.c_Table, He.noat_ok (k.c.a 74)⟩
theorem Kn.a_Table_own_names : InF K (ga K "Table") "own_names" := ⟨k.c_Table, He.noat_ok (k.c.a 75)⟩
theorem Kn.a_Table_own_seats : InF K (ga K "Table") "own_seats" := ⟨k.c_Table, He.noat_ok (k.c.a 76)⟩
theorem Kn.a_Table_own_run : InF K (ga K "Table") "own_run" := ⟨k.c_Table, He.noat_ok (k.c.a 77)⟩
theorem Kn.a_Table_own_past : InF K (ga K "Table") "own_past" := ⟨k.c_Table, He.noat_ok (k.c.a 78)⟩
theorem Kn.mk_Round : Mk K (ga K "Round") (ma K (ga K "Round") "__init__") := He.mkr_ok (k.c.a 79)
theorem Kn.mk_Run : Mk K (ga K "Run") (ma K (ga K "Run") "__init__") := He.mkr_ok (k.c.a 80)
theorem Kn.mk_Seat : Mk K (ga K "Seat") (ma K (ga K "Seat") "__init__") := He.mkr_ok (k.c.a 81)
theorem Kn.mk_Standing : Mk K (ga K "Standing") (ma K (ga K "Standing") "__init__") := He.mkr_ok (k.c.a 82)
theorem Kn.mk_Table : Mk K (ga K "Table") (ma K (ga K "Table") "__init__") := He.mkr_ok (k.c.a 83)
theorem Kn.m_Seat_greatest_name : Meth K (ga K "Seat") "greatest_name" (ma K (ga K "Seat") "greatest_name") := He.meth_ok (k.c.a 84)
theorem Kn.m_Seat_next_seat : Meth K (ga K "Seat") "next_seat" (ma K (ga K "Seat") "next_seat") := He.meth_ok (k.c.a 85)
theorem Kn.m_Table_keep_now : Meth K (ga K "Table") "keep_now" (ma K (ga K "Table") "keep_now") := He.meth_ok (k.c.a 86)
theorem Kn.m_Table_go : Meth K (ga K "Table") "go" (ma K (ga K "Table") "go") := He.meth_ok (k.c.a 87)
theorem Kn.m_Table_stop : Meth K (ga K "Table") "stop" (ma K (ga K "Table") "stop") := He.meth_ok (k.c.a 88)
theorem Kn.m_Table_finish : Meth K (ga K "Table") "finish" (ma K (ga K "Table") "finish") := He.meth_ok (k.c.a 89)
theorem Kn.m_Table_undo : Meth K (ga K "Table") "undo" (ma K (ga K "Table") "undo") := He.meth_ok (k.c.a 90)
theorem Kn.m_Table_twin : Meth K (ga K "Table") "twin" (ma K (ga K "Table") "twin") := He.meth_ok (k.c.a 91)
theorem Kn.c_Round : SCls K (ga K "Round") := scl_ok (k.c.b 0)
theorem Kn.c_Run : SCls K (ga K "Run") := scl_ok (k.c.b 1)
theorem Kn.c_Seat : SCls K (ga K "Seat") := scl_ok (k.c.b 2)
theorem Kn.c_Standing : SCls K (ga K "Standing") := scl_ok (k.c.b 3)
theorem Kn.a_Round_own_blocks : SlF K (ga K "Round") "own_blocks" 0 := slt_ok (k.c.b 0) (k.c.b 4)
theorem Kn.a_Round_own_sign : SlF K (ga K "Round") "own_sign" 1 := slt_ok (k.c.b 0) (k.c.b 5)
theorem Kn.a_Round_own_size : SlF K (ga K "Round") "own_size" 2 := slt_ok (k.c.b 0) (k.c.b 6)
theorem Kn.a_Round_own_threads : SlF K (ga K "Round") "own_threads" 3 := slt_ok (k.c.b 0) (k.c.b 7)
theorem Kn.a_Run_own_rounds : SlF K (ga K "Run") "own_rounds" 0 := slt_ok (k.c.b 1) (k.c.b 8)
theorem Kn.a_Run_own_sign : SlF K (ga K "Run") "own_sign" 1 := slt_ok (k.c.b 1) (k.c.b 9)
theorem Kn.a_Run_own_threads : SlF K (ga K "Run") "own_threads" 2 := slt_ok (k.c.b 1) (k.c.b 10)
theorem Kn.a_Seat_own_direction : SlF K (ga K "Seat") "own_direction" 0 := slt_ok (k.c.b 2) (k.c.b 11)
theorem Kn.a_Seat_own_first : SlF K (ga K "Seat") "own_first" 1 := slt_ok (k.c.b 2) (k.c.b 12)
theorem Kn.a_Seat_own_past : SlF K (ga K "Seat") "own_past" 2 := slt_ok (k.c.b 2) (k.c.b 13)
theorem Kn.a_Standing_held_names : SlF K (ga K "Standing") "held_names" 0 := slt_ok (k.c.b 3) (k.c.b 14)
theorem Kn.a_Standing_held_run : SlF K (ga K "Standing") "held_run" 1 := slt_ok (k.c.b 3) (k.c.b 15)
theorem Kn.a_Standing_held_running : SlF K (ga K "Standing") "held_running" 2 := slt_ok (k.c.b 3) (k.c.b 16)
theorem Kn.a_Standing_held_seats : SlF K (ga K "Standing") "held_seats" 3 := slt_ok (k.c.b 3) (k.c.b 17)
theorem Kn.k_Round_Round : IsiK K (ga K "Round") (ga K "Round") true := isiK_ok (k.c.b 0) (k.c.b 18) (k.c.b 21)
theorem Kn.k_Run_Run : IsiK K (ga K "Run") (ga K "Run") true := isiK_ok (k.c.b 1) (k.c.b 19) (k.c.b 22)
theorem Kn.k_Table_Table : IsiI K (ga K "Table") (ga K "Table") true := isiI_ok (k.c.a 72) (k.c.b 20) (k.c.b 23)
theorem Kn.eq_Round : EqK K (ga K "Round") (ma K (ga K "Round") "__eq__") := eqk_ok (k.c.b 24)
theorem Kn.eq_Run : EqK K (ga K "Run") (ma K (ga K "Run") "__eq__") := eqk_ok (k.c.b 25)
theorem Kn.eq_Table : EqK K (ga K "Table") (ma K (ga K "Table") "__eq__") := eqk_ok (k.c.b 26)
theorem Kn.sp_Round___str__ : SpK K (ga K "Round") "__str__" (ma K (ga K "Round") "__str__") := spk_ok (k.c.b 27)
theorem Kn.sp_Run___len__ : SpK K (ga K "Run") "__len__" (ma K (ga K "Run") "__len__") := spk_ok (k.c.b 28)
theorem Kn.sp_Run___getitem__ : SpK K (ga K "Run") "__getitem__" (ma K (ga K "Run") "__getitem__") := spk_ok (k.c.b 29)
theorem Kn.sp_Table___bool__ : SpK K (ga K "Table") "__bool__" (ma K (ga K "Table") "__bool__") := spk_ok (k.c.b 30)
theorem Kn.sp_Table___len__ : SpK K (ga K "Table") "__len__" (ma K (ga K "Table") "__len__") := spk_ok (k.c.b 31)
theorem Kn.sp_Table___str__ : SpK K (ga K "Table") "__str__" (ma K (ga K "Table") "__str__") := spk_ok (k.c.b 32)
theorem Kn.fn_Run___getitem__ : PySem.W.fnIn K (ma K (ga K "Run") "__getitem__") = true := k.c.b 33 (f := .fnn "Run" "__getitem__")
theorem Kn.p_Table_threads : PrK K (ga K "Table") "threads" (prA K "Table" "threads") := prp_ok (k.c.b 34)
theorem Kn.p_Table_running : PrK K (ga K "Table") "running" (prA K "Table" "running") := prp_ok (k.c.b 35)
theorem Kn.p_Table_names : PrK K (ga K "Table") "names" (prA K "Table" "names") := prp_ok (k.c.b 36)
theorem Kn.p_Table_places : PrK K (ga K "Table") "places" (prA K "Table" "places") := prp_ok (k.c.b 37)
theorem Kn.p_Table_run : PrK K (ga K "Table") "run" (prA K "Table" "run") := prp_ok (k.c.b 38)
theorem Kn.kp_is_integer : PySem.W.keepIn K (.ref (ga K "is_integer")) = true := by
  obtain ⟨fd, F⟩ := k.c.d 0
  exact F.kp
theorem Kn.kp_is_between : PySem.W.keepIn K (.ref (ga K "is_between")) = true := by
  obtain ⟨fd, F⟩ := k.c.d 1
  exact F.kp
theorem Kn.kp_is_old_name : PySem.W.keepIn K (.ref (ga K "is_old_name")) = true := by
  obtain ⟨fd, F⟩ := k.c.d 2
  exact F.kp
theorem Kn.kp_are_old_names : PySem.W.keepIn K (.ref (ga K "are_old_names")) = true := by
  obtain ⟨fd, F⟩ := k.c.d 3
  exact F.kp
theorem Kn.kp_are_threads : PySem.W.keepIn K (.ref (ga K "are_threads")) = true := by
  obtain ⟨fd, F⟩ := k.c.d 4
  exact F.kp
theorem Kn.kp_require_threads : PySem.W.keepIn K (.ref (ga K "require_threads")) = true := by
  obtain ⟨fd, F⟩ := k.c.d 5
  exact F.kp
theorem Kn.kp_are_blocks : PySem.W.keepIn K (.ref (ga K "are_blocks")) = true := by
  obtain ⟨fd, F⟩ := k.c.d 6
  exact F.kp
theorem Kn.kp_place_of : PySem.W.keepIn K (.ref (ga K "place_of")) = true := by
  obtain ⟨fd, F⟩ := k.c.d 7
  exact F.kp
theorem Kn.kp_seen_by : PySem.W.keepIn K (.ref (ga K "seen_by")) = true := by
  obtain ⟨fd, F⟩ := k.c.d 8
  exact F.kp
theorem Kn.kp_are_rounds : PySem.W.keepIn K (.ref (ga K "are_rounds")) = true := by
  obtain ⟨fd, F⟩ := k.c.d 9
  exact F.kp
theorem Kn.kp_require_run : PySem.W.keepIn K (.ref (ga K "require_run")) = true := by
  obtain ⟨fd, F⟩ := k.c.d 10
  exact F.kp
theorem Kn.kp_first_seats : PySem.W.keepIn K (.ref (ga K "first_seats")) = true := by
  obtain ⟨fd, F⟩ := k.c.d 11
  exact F.kp
theorem Kn.kp_seats_behind : PySem.W.keepIn K (.ref (ga K "seats_behind")) = true := by
  obtain ⟨fd, F⟩ := k.c.d 12
  exact F.kp
theorem Kn.kp_is_waiting : PySem.W.keepIn K (.ref (ga K "is_waiting")) = true := by
  obtain ⟨fd, F⟩ := k.c.d 13
  exact F.kp
theorem Kn.kp_is_number_text : PySem.W.keepIn K (.ref (ga K "is_number_text")) = true := by
  obtain ⟨fd, F⟩ := k.c.d 14
  exact F.kp
theorem Kn.kp_are_number_texts : PySem.W.keepIn K (.ref (ga K "are_number_texts")) = true := by
  obtain ⟨fd, F⟩ := k.c.d 15
  exact F.kp
theorem Kn.kp_numbers_in : PySem.W.keepIn K (.ref (ga K "numbers_in")) = true := by
  obtain ⟨fd, F⟩ := k.c.d 16
  exact F.kp
theorem Kn.kp_names_text : PySem.W.keepIn K (.ref (ga K "names_text")) = true := by
  obtain ⟨fd, F⟩ := k.c.d 17
  exact F.kp
theorem Kn.kp_run_text : PySem.W.keepIn K (.ref (ga K "run_text")) = true := by
  obtain ⟨fd, F⟩ := k.c.d 18
  exact F.kp
theorem Kn.kp_write_run : PySem.W.keepIn K (.ref (ga K "write_run")) = true := by
  obtain ⟨fd, F⟩ := k.c.d 19
  exact F.kp
theorem Kn.kp_require_text : PySem.W.keepIn K (.ref (ga K "require_text")) = true := by
  obtain ⟨fd, F⟩ := k.c.d 20
  exact F.kp
theorem Kn.kp_require_pieces : PySem.W.keepIn K (.ref (ga K "require_pieces")) = true := by
  obtain ⟨fd, F⟩ := k.c.d 21
  exact F.kp
theorem Kn.kp_is_round_text : PySem.W.keepIn K (.ref (ga K "is_round_text")) = true := by
  obtain ⟨fd, F⟩ := k.c.d 22
  exact F.kp
theorem Kn.kp_made_round : PySem.W.keepIn K (.ref (ga K "made_round")) = true := by
  obtain ⟨fd, F⟩ := k.c.d 23
  exact F.kp
theorem Kn.kp_require_found : PySem.W.keepIn K (.ref (ga K "require_found")) = true := by
  obtain ⟨fd, F⟩ := k.c.d 24
  exact F.kp
theorem Kn.kp_made_run : PySem.W.keepIn K (.ref (ga K "made_run")) = true := by
  obtain ⟨fd, F⟩ := k.c.d 25
  exact F.kp
theorem Kn.kp_read_run : PySem.W.keepIn K (.ref (ga K "read_run")) = true := by
  obtain ⟨fd, F⟩ := k.c.d 26
  exact F.kp
theorem Kn.kp__law_filled : PySem.W.keepIn K (.ref (ga K "_law_filled")) = true := by
  obtain ⟨fd, F⟩ := k.c.d 27
  exact F.kp
theorem Kn.kp__law_dip : PySem.W.keepIn K (.ref (ga K "_law_dip")) = true := by
  obtain ⟨fd, F⟩ := k.c.d 28
  exact F.kp
theorem Kn.kp__law_choose : PySem.W.keepIn K (.ref (ga K "_law_choose")) = true := by
  obtain ⟨fd, F⟩ := k.c.d 29
  exact F.kp
theorem Kn.kp__law_shuffled : PySem.W.keepIn K (.ref (ga K "_law_shuffled")) = true := by
  obtain ⟨fd, F⟩ := k.c.d 30
  exact F.kp
theorem Kn.kp__law_old_names : PySem.W.keepIn K (.ref (ga K "_law_old_names")) = true := by
  obtain ⟨fd, F⟩ := k.c.d 31
  exact F.kp
theorem Kn.kp__law_blocks : PySem.W.keepIn K (.ref (ga K "_law_blocks")) = true := by
  obtain ⟨fd, F⟩ := k.c.d 32
  exact F.kp
theorem Kn.kp__law_standing : PySem.W.keepIn K (.ref (ga K "_law_standing")) = true := by
  obtain ⟨fd, F⟩ := k.c.d 33
  exact F.kp
theorem Kn.kp__law_replayed_right : PySem.W.keepIn K (.ref (ga K "_law_replayed_right")) = true := by
  obtain ⟨fd, F⟩ := k.c.d 34
  exact F.kp
theorem Kn.kp__law_finished_right : PySem.W.keepIn K (.ref (ga K "_law_finished_right")) = true := by
  obtain ⟨fd, F⟩ := k.c.d 35
  exact F.kp
theorem Kn.kp__law_right : PySem.W.keepIn K (.ref (ga K "_law_right")) = true := by
  obtain ⟨fd, F⟩ := k.c.d 36
  exact F.kp
theorem Kn.kp_law : PySem.W.keepIn K (.ref (ga K "law")) = true := by
  obtain ⟨fd, F⟩ := k.c.d 37
  exact F.kp
theorem Kn.kp_Round___init__ : PySem.W.keepIn K (.ref (ma K (ga K "Round") "__init__")) = true := by
  obtain ⟨fd, F⟩ := k.c.d 38
  exact F.kp
theorem Kn.kp_Round___eq__ : PySem.W.keepIn K (.ref (ma K (ga K "Round") "__eq__")) = true := by
  obtain ⟨fd, F⟩ := k.c.d 39
  exact F.kp
theorem Kn.kp_Round___str__ : PySem.W.keepIn K (.ref (ma K (ga K "Round") "__str__")) = true := by
  obtain ⟨fd, F⟩ := k.c.d 40
  exact F.kp
theorem Kn.kp_Run___init__ : PySem.W.keepIn K (.ref (ma K (ga K "Run") "__init__")) = true := by
  obtain ⟨fd, F⟩ := k.c.d 41
  exact F.kp
theorem Kn.kp_Run___getitem__ : PySem.W.keepIn K (.ref (ma K (ga K "Run") "__getitem__")) = true := by
  obtain ⟨fd, F⟩ := k.c.d 42
  exact F.kp
theorem Kn.kp_Run___len__ : PySem.W.keepIn K (.ref (ma K (ga K "Run") "__len__")) = true := by
  obtain ⟨fd, F⟩ := k.c.d 43
  exact F.kp
theorem Kn.kp_Run___eq__ : PySem.W.keepIn K (.ref (ma K (ga K "Run") "__eq__")) = true := by
  obtain ⟨fd, F⟩ := k.c.d 44
  exact F.kp
theorem Kn.kp_Seat___init__ : PySem.W.keepIn K (.ref (ma K (ga K "Seat") "__init__")) = true := by
  obtain ⟨fd, F⟩ := k.c.d 45
  exact F.kp
theorem Kn.kp_Seat_greatest_name : PySem.W.keepIn K (.ref (ma K (ga K "Seat") "greatest_name")) = true := by
  obtain ⟨fd, F⟩ := k.c.d 46
  exact F.kp
theorem Kn.kp_Seat_next_seat : PySem.W.keepIn K (.ref (ma K (ga K "Seat") "next_seat")) = true := by
  obtain ⟨fd, F⟩ := k.c.d 47
  exact F.kp
theorem Kn.kp_Standing___init__ : PySem.W.keepIn K (.ref (ma K (ga K "Standing") "__init__")) = true := by
  obtain ⟨fd, F⟩ := k.c.d 48
  exact F.kp
theorem Kn.kp_Table___init__ : PySem.W.keepIn K (.ref (ma K (ga K "Table") "__init__")) = true := by
  obtain ⟨fd, F⟩ := k.c.d 49
  exact F.kp
theorem Kn.kp_Table_keep_now : PySem.W.keepIn K (.ref (ma K (ga K "Table") "keep_now")) = true := by
  obtain ⟨fd, F⟩ := k.c.d 50
  exact F.kp
theorem Kn.kp_Table_go : PySem.W.keepIn K (.ref (ma K (ga K "Table") "go")) = true := by
  obtain ⟨fd, F⟩ := k.c.d 51
  exact F.kp
theorem Kn.kp_Table_stop : PySem.W.keepIn K (.ref (ma K (ga K "Table") "stop")) = true := by
  obtain ⟨fd, F⟩ := k.c.d 52
  exact F.kp
theorem Kn.kp_Table_finish : PySem.W.keepIn K (.ref (ma K (ga K "Table") "finish")) = true := by
  obtain ⟨fd, F⟩ := k.c.d 53
  exact F.kp
theorem Kn.kp_Table_undo : PySem.W.keepIn K (.ref (ma K (ga K "Table") "undo")) = true := by
  obtain ⟨fd, F⟩ := k.c.d 54
  exact F.kp
theorem Kn.kp_Table_twin : PySem.W.keepIn K (.ref (ma K (ga K "Table") "twin")) = true := by
  obtain ⟨fd, F⟩ := k.c.d 55
  exact F.kp
theorem Kn.kp_Table___bool__ : PySem.W.keepIn K (.ref (ma K (ga K "Table") "__bool__")) = true := by
  obtain ⟨fd, F⟩ := k.c.d 56
  exact F.kp
theorem Kn.kp_Table___len__ : PySem.W.keepIn K (.ref (ma K (ga K "Table") "__len__")) = true := by
  obtain ⟨fd, F⟩ := k.c.d 57
  exact F.kp
theorem Kn.kp_Table___eq__ : PySem.W.keepIn K (.ref (ma K (ga K "Table") "__eq__")) = true := by
  obtain ⟨fd, F⟩ := k.c.d 58
  exact F.kp
theorem Kn.kp_Table___str__ : PySem.W.keepIn K (.ref (ma K (ga K "Table") "__str__")) = true := by
  obtain ⟨fd, F⟩ := k.c.d 59
  exact F.kp
theorem Kn.kp_Table_threads : PySem.W.keepIn K (.ref (prA K "Table" "threads")) = true := by
  obtain ⟨fd, F⟩ := k.c.d 60
  exact F.kp
theorem Kn.kp_Table_running : PySem.W.keepIn K (.ref (prA K "Table" "running")) = true := by
  obtain ⟨fd, F⟩ := k.c.d 61
  exact F.kp
theorem Kn.kp_Table_names : PySem.W.keepIn K (.ref (prA K "Table" "names")) = true := by
  obtain ⟨fd, F⟩ := k.c.d 62
  exact F.kp
theorem Kn.kp_Table_places : PySem.W.keepIn K (.ref (prA K "Table" "places")) = true := by
  obtain ⟨fd, F⟩ := k.c.d 63
  exact F.kp
theorem Kn.kp_Table_run : PySem.W.keepIn K (.ref (prA K "Table" "run")) = true := by
  obtain ⟨fd, F⟩ := k.c.d 64
  exact F.kp
end
theorem b_isinstance : bootBuiltins "isinstance" = some (.builtin "isinstance") := by decide +kernel
theorem b_int : bootBuiltins "int" = some (.type "int") := by decide +kernel
theorem b_bool : bootBuiltins "bool" = some (.type "bool") := by decide +kernel
theorem b_tuple : bootBuiltins "tuple" = some (.type "tuple") := by decide +kernel
theorem b_all : bootBuiltins "all" = some (.builtin "all") := by decide +kernel
theorem b_any : bootBuiltins "any" = some (.builtin "any") := by decide +kernel
theorem b_list : bootBuiltins "list" = some (.type "list") := by decide +kernel
theorem b_sorted : bootBuiltins "sorted" = some (.builtin "sorted") := by decide +kernel
theorem b_set : bootBuiltins "set" = some (.type "set") := by decide +kernel
theorem b_len : bootBuiltins "len" = some (.builtin "len") := by decide +kernel
theorem b_str : bootBuiltins "str" = some (.type "str") := by decide +kernel
theorem b_next : bootBuiltins "next" = some (.builtin "next") := by decide +kernel
theorem b_enumerate : bootBuiltins "enumerate" = some (.type "enumerate") := by decide +kernel
theorem b_range : bootBuiltins "range" = some (.type "range") := by decide +kernel
theorem b_repr : bootBuiltins "repr" = some (.builtin "repr") := by decide +kernel
theorem b_abs : bootBuiltins "abs" = some (.builtin "abs") := by decide +kernel
theorem b_max : bootBuiltins "max" = some (.builtin "max") := by decide +kernel
theorem b_min : bootBuiltins "min" = some (.builtin "min") := by decide +kernel
theorem b_dict : bootBuiltins "dict" = some (.type "dict") := by decide +kernel
end W82
set_option Elab.async false
set_option linter.all false
set_option maxRecDepth 100000
set_option maxHeartbeats 4000000
/-! E4: data: shapes, == of ints' tuples. -/
namespace DL
open PySem PySem.Spec PyProof.Rows L2 SlX

/-- data of depth at most n -/
def Dat (n : Nat) (d : D) : Prop := (toP d).canLay0 = true ∧ (toP d).depth ≤ n
theorem toPs_map {α : Type} (f : α → D) : ∀ xs : List α, toPs (xs.map f) = xs.map fun x => toP (f x)
  | [] => rfl
  | x :: xs => by rw [List.map_cons, List.map_cons, toPs, toPs_map f xs]
theorem datAll {n : Nat} : ∀ {xs : List D}, (∀ x ∈ xs, Dat n x) → PyData.canLayAll0 (toPs xs) = true ∧ PyData.depthAll (toPs xs) ≤ n
  | [], _ => ⟨rfl, Nat.zero_le n⟩
  | x :: xs, h => by
    obtain ⟨h1, h2⟩ := datAll fun y hy => h y (List.mem_cons_of_mem _ hy)
    obtain ⟨h3, h4⟩ := h x List.mem_cons_self
    constructor
    · rw [toPs, PyData.canLayAll0, h3, h1]; rfl
    · rw [toPs, PyData.depthAll]; omega
theorem Dat.int (i : Int) : Dat 0 (.int i) := ⟨by simp [toP, PyData.canLay0], by simp [toP, PyData.depth]⟩
theorem Dat.bl (i : Bool) : Dat 0 (.bl i) := ⟨by simp [toP, PyData.canLay0], by simp [toP, PyData.depth]⟩
theorem Dat.non : Dat 0 .non := ⟨by simp [toP, PyData.canLay0], by simp [toP, PyData.depth]⟩
theorem Dat.str {x : Str} (h : PyData.canLay0 (.str x) = true) : Dat 0 (.str x) := ⟨by simpa [toP] using h, by simp [toP, PyData.depth]⟩
theorem Dat.mono {n k : Nat} {d : D} (h : Dat n d) (l : n ≤ k) : Dat k d := ⟨h.1, Nat.le_trans h.2 l⟩
theorem Dat.tup {n : Nat} {xs : List D} (h : ∀ x ∈ xs, Dat n x) : Dat (n + 1) (.tup xs) := by
  obtain ⟨h1, h2⟩ := datAll h
  exact ⟨by simpa [toP, PyData.canLay0] using h1, by simpa [toP, PyData.depth] using h2⟩
theorem Dat.lst {n : Nat} {xs : List D} (h : ∀ x ∈ xs, Dat n x) : Dat (n + 1) (.lst xs) := by
  obtain ⟨h1, h2⟩ := datAll h
  exact ⟨by simpa [toP, PyData.canLay0] using h1, by simpa [toP, PyData.depth] using h2⟩
theorem Dat.tupM {α : Type} {n : Nat} {f : α → D} {xs : List α} (h : ∀ x, Dat n (f x)) : Dat (n + 1) (.tup (xs.map f)) := Dat.tup fun y hy => by
  obtain ⟨x, _, e⟩ := List.mem_map.mp hy
  rw [← e]
  exact h x
theorem Dat.lstM {α : Type} {n : Nat} {f : α → D} {xs : List α} (h : ∀ x, Dat n (f x)) : Dat (n + 1) (.lst (xs.map f)) := Dat.lst fun y hy => by
  obtain ⟨x, _, e⟩ := List.mem_map.mp hy
  rw [← e]
  exact h x
theorem Dat.sh {n : Nat} {d : D} (h : Dat n d) (l : n ≤ 64) : shD d := by
  unfold shD SeqAt.shaped
  rw [h.1, Bool.true_and]
  exact decide_eq_true (Nat.le_trans h.2 l)
theorem eqD_refl {n : Nat} {d : D} (h : Dat n d) : eqD d d = true := SeqAt.eqv_refl _ h.1
@[simp] theorem eqD_int (i j : Int) : eqD (.int i) (.int j) = decide (i = j) := by
  show PyData.eqv (toP (.int i)) (toP (.int j)) = _
  simp [toP, PyData.eqv]
  rw [Bool.eq_iff_iff]
  simp
theorem eqv_ints : ∀ a b : List Int, PyData.eqvAll (toPs (a.map .int)) (toPs (b.map .int)) = decide (a = b)
  | [], [] => by simp [toPs, PyData.eqvAll]
  | [], _ :: _ => by simp [toPs, PyData.eqvAll]
  | _ :: _, [] => by simp [toPs, PyData.eqvAll]
  | x :: a, y :: b => by
    simp only [List.map_cons, toPs, PyData.eqvAll, eqv_ints a b, toP, PyData.eqv]
    rw [Bool.eq_iff_iff]
    simp
theorem eqD_tupI (a b : List Int) : eqD (.tup (a.map .int)) (.tup (b.map .int)) = decide (a = b) := by
  show PyData.eqv (toP (.tup _)) (toP (.tup _)) = _
  rw [← eqv_ints]
  simp [toP, PyData.eqv]
theorem eqD_lstI (a b : List Int) : eqD (.lst (a.map .int)) (.lst (b.map .int)) = decide (a = b) := by
  show PyData.eqv (toP (.lst _)) (toP (.lst _)) = _
  rw [← eqv_ints]
  simp [toP, PyData.eqv]
theorem datI (ns : List Int) : Dat 1 (.tup (ns.map .int)) := Dat.tupM fun i => .int i
theorem datLI (ns : List Int) : Dat 1 (.lst (ns.map .int)) := Dat.lstM fun i => .int i
@[simp] theorem sh_int (i : Int) : shD (.int i) := (Dat.int i).sh (by decide)
@[simp] theorem sh_bl (i : Bool) : shD (.bl i) := (Dat.bl i).sh (by decide)
@[simp] theorem sh_non : shD .non := Dat.non.sh (by decide)
theorem sh_tI (ns : List Int) : shD (.tup (ns.map .int)) := (datI ns).sh (by decide)
theorem sh_lI (ns : List Int) : shD (.lst (ns.map .int)) := (datLI ns).sh (by decide)
theorem asc_setI {ns : List Int} (h : ns.Pairwise (· < ·)) : setI ns = ns := asc_ext (setI_asc ns) h fun k => mem_setI
end DL
set_option Elab.async false
set_option linter.all false
set_option maxRecDepth 100000
set_option maxHeartbeats 4000000
/-! E5: powers of great numbers. -/
namespace DL
open PySem PySem.Spec PyProof.Rows L2 SlX
section
variable {X : Cx}
def CPowW (i j : Int) : Prop := 0 ≤ j ∧ (Builtin.Int.intBits i : Int) * j ≤ 2 ^ 27
theorem op_powW : OpR X (binaryOp .Pow) (rI CPowW fun i j => .int (i ^ j.toNat)) := opI fun _ _ _ _ _ _ _ hc q => pow_int hc.1 hc.2 q
theorem od_powW : OpD X (binaryOp .Pow) (dI CPowW fun i j => .int (i ^ j.toNat)) := opd_int op_powW _ fun _ _ _ _ => .int _
example : CPowW 1000000000000000000000000000000000000000000000000000000000000 10 := ⟨by decide, by decide +kernel⟩
end
end DL
set_option Elab.async false
set_option linter.all false
set_option maxRecDepth 100000
set_option maxHeartbeats 4000000
namespace FN
open PySem PySem.Spec PyProof.Rows L2 SlX DL
abbrev tbP (K : PySem.W.Frag) (x : Str) : Addr := (He.cT K (x, none)).2
abbrev tbC (K : PySem.W.Frag) (x : Str) : Addr := (He.cT K (x, none)).1
def T_is_integer (K : PySem.W.Frag) : TDS :=
    (dRet (dAndV (dCall (dIsi "int") (dCons (dVar 0) (dCons (dC (.ty "int")) dNil))) (dAndV (dNotV (dCall (dIsi "bool") (dCons (dVar 0) (dCons (dC (.ty "bool")) dNil)))) (dChain (dI0 fun i j => .bl (decide (i < j))) (dI0 fun i j => .bl (decide (i < j))) (dUn (fun x m R => ∃ i, x = .int i ∧ R (.int (-i)) m) (dC (.int 1000000000000000000000000000000000000000000000000000000000000))) (dVar 0) (dC (.int 1000000000000000000000000000000000000000000000000000000000000))))))
def T_is_between (K : PySem.W.Frag) (s_is_integer : DRs) : TDS :=
    (dRet (dAndV (dCall s_is_integer (dCons (dVar 0) dNil)) (dChain (dI0 fun i j => .bl (decide (i ≤ j))) (dI0 fun i j => .bl (decide (i ≤ j))) (dVar 1) (dVar 0) (dVar 2))))
def T_is_old_name (K : PySem.W.Frag) (s_is_integer : DRs) : TDS :=
    (dRet (dAndV (dCall s_is_integer (dCons (dVar 0) dNil)) (dOp (dI0 fun i j => .bl (decide (j ≤ i))) (dVar 0) (dC (.int 0)))))
def T_are_old_names (K : PySem.W.Frag) (s_is_old_name : DRs) : TDS :=
    (dRet (dAndV (dCall (dIsi "tuple") (dCons (dVar 0) (dCons (dC (.ty "tuple")) dNil))) (dAndV (dCall dAll (dCons (dLc (dISeq (dVar 0)) (dName 1) dYes (dCall s_is_old_name (dCons (dVar 1) dNil)) [1]) dNil)) (dOp (dEq) (dCall dListOf (dCons (dVar 0) dNil)) (dSortSet (dVar 0))))))
def T_are_threads (K : PySem.W.Frag) (s_are_old_names : DRs) : TDS :=
    (dRet (dAndV (dCall s_are_old_names (dCons (dVar 0) dNil)) (dChain (dI0 fun i j => .bl (decide (i ≤ j))) (dI0 fun i j => .bl (decide (i ≤ j))) (dC (.int 1)) (dCall dLen (dCons (dVar 0) dNil)) (dC (.int 5)))))
def T_require_threads (K : PySem.W.Frag) (s_are_threads : DRs) : TDS :=
    (dIfS (dNot (dTB (dCall s_are_threads (dCons (dVar 0) dNil)))) dNever dNext)
def T_are_blocks (K : PySem.W.Frag) (s_are_threads : DRs) : TDS :=
    (dSeq (dIfS (dOr (dNot (dTB (dCall (dIsi "tuple") (dCons (dVar 0) (dCons (dC (.ty "tuple")) dNil))))) (dNot (dTB (dCall dAll (dCons (dLc (dISeq (dVar 0)) (dName 2) dYes (dCall s_are_threads (dCons (dVar 2) dNil)) [2]) dNil))))) (dRet (dC (.bl false))) dNext)
    (dSeq (dAsg (dLc2 (dISeq (dVar 0)) (dName 2) dYes (dISeq (dVar 2)) (dName 3) dYes (dVar 3) [2, 3] [3]) (dName 1))
    (dRet (dAndV (dChain (dI0 fun i j => .bl (decide (i ≤ j))) (dI0 fun i j => .bl (decide (i ≤ j))) (dC (.int 1)) (dCall dLen (dCons (dVar 1) dNil)) (dC (.int 5))) (dOp (dEq) (dLenSet (dVar 1)) (dCall dLen (dCons (dVar 1) dNil)))))))
def T_Round___init__ (K : PySem.W.Frag) (s_are_blocks : DRs) : TDS :=
    (dSeq (dIfS (dNot (dTB (dCall s_are_blocks (dCons (dVar 1) dNil)))) dNever dNext)
    (dSeq (dSetSlot (ga K "Round") 0 (dVar 1) (dVar 0))
    (dSeq (dSetSlot (ga K "Round") 3 (dCall dTupleOf (dCons (dCall dSortI (dCons (dLc2 (dISeq (dVar 1)) (dName 2) dYes (dISeq (dVar 2)) (dName 3) dYes (dVar 3) [2, 3] [3]) dNil)) dNil)) (dVar 0))
    (dSeq (dSetSlot (ga K "Round") 1 (dIf (dTB (dOp (dEq) (dOp (dI (fun _ j => 0 < j) fun i j => .int (i % j)) (dOp (dI0 fun i j => .int (i - j)) (dCall dLen (dCons (dSlot (ga K "Round") 3 (dVar 0)) dNil)) (dCall dLen (dCons (dVar 1) dNil))) (dC (.int 2))) (dC (.int 0)))) (dC (.int 1)) (dUn (fun x m R => ∃ i, x = .int i ∧ R (.int (-i)) m) (dC (.int 1)))) (dVar 0))
    (dSetSlot (ga K "Round") 2 (dCall dLen (dCons (dVar 1) dNil)) (dVar 0))))))
def T_Round___eq__ (K : PySem.W.Frag) : TDS :=
    (dRet (dAndV (dCall (dIsiO (ga K "Round") (ga K "Round") true) (dCons (dVar 1) (dCons (dC (.ad (ga K "Round"))) dNil))) (dOp (dEq) (dSlot (ga K "Round") 0 (dVar 0)) (dSlot (ga K "Round") 0 (dVar 1)))))
def T_Round___str__ (K : PySem.W.Frag) : TDS :=
    (dRet (dBM "str" dJoin (dC (.str "|")) (dCons (dLc (dISeq (dSlot (ga K "Round") 0 (dVar 0))) (dName 2) dYes (dBM "str" dJoin (dC (.str " ")) (dCons (dLc (dISeq (dVar 2)) (dName 1) dYes (dCall (fun ds m R => ∃ i, ds = [.int i] ∧ i.natAbs.log2 < 1920 ∧ R (.str (toString i)) m) (dCons (dVar 1) dNil)) [1]) dNil)) [2]) dNil)))
def T_place_of (K : PySem.W.Frag) : TDS :=
    (dRet (dNextIn (tbP K "place_of") 1 (dSlot (ga K "Round") 0 (dVar 0))))
def T_seen_by (K : PySem.W.Frag) (s_place_of : DRs) : TDS :=
    (dSeq (dAsg (dCall s_place_of (dCons (dVar 0) (dCons (dVar 1) dNil))) (dName 2))
    (dRet (dCall dTupleOf (dCons (dCall dSortI (dCons (dLc2 (dISeq (dSl (dSlot (ga K "Round") 0 (dVar 0)) dNoPart (dPart (dOp dAdd (dVar 2) (dC (.int 1)))))) (dName 3) dYes (dISeq (dVar 3)) (dName 4) dYes (dVar 4) [3, 4] [4]) dNil)) dNil))))
def T_are_rounds (K : PySem.W.Frag) : TDS :=
    (dSeq (dIfS (dOr (dNot (dTB (dCall (dIsi "tuple") (dCons (dVar 1) (dCons (dC (.ty "tuple")) dNil))))) (dTB (dOp (dI0 fun i j => .bl (decide (j < i))) (dCall dLen (dCons (dVar 1) dNil)) (dC (.int 6))))) (dRet (dC (.bl false))) dNext)
    (dRet (dCall dAll (dCons (dLc (dISeq (dVar 1)) (dName 2) dYes (dAndV (dCall (dIsiO (ga K "Round") (ga K "Round") true) (dCons (dVar 2) (dCons (dC (.ad (ga K "Round"))) dNil))) (dOp (dEq) (dSlot (ga K "Round") 3 (dVar 2)) (dVar 0))) [2]) dNil))))
def T_Run___init__ (K : PySem.W.Frag) (s_require_threads : DRs) (s_are_rounds : DRs) : TDS :=
    (dSeq (dDrop (dCall s_require_threads (dCons (dVar 1) dNil)))
    (dSeq (dIfS (dNot (dTB (dCall s_are_rounds (dCons (dVar 1) (dCons (dVar 2) dNil))))) dNever dNext)
    (dSeq (dSetSlot (ga K "Run") 2 (dVar 1) (dVar 0))
    (dSeq (dSetSlot (ga K "Run") 0 (dVar 2) (dVar 0))
    (dSeq (dSetSlot (ga K "Run") 1 (dC (.int 1)) (dVar 0))
    (dFor (dISeq (dVar 2)) (dName 3) (dAugSlot (ga K "Run") 1 (dVar 0) (dSlot (ga K "Round") 1 (dVar 3)) dIMul)))))))
def T_Run___getitem__ (K : PySem.W.Frag) (s_is_between : DRs) : TDS :=
    (dSeq (dIfS (dNot (dTB (dCall s_is_between (dCons (dVar 1) (dCons (dC (.int 0)) (dCons (dOp (dI0 fun i j => .int (i - j)) (dCall dLen (dCons (dSlot (ga K "Run") 0 (dVar 0)) dNil)) (dC (.int 1))) dNil)))))) dNever dNext)
    (dRet (dOp dIx (dSlot (ga K "Run") 0 (dVar 0)) (dVar 1))))
def T_Run___len__ (K : PySem.W.Frag) : TDS :=
    (dRet (dCall dLen (dCons (dSlot (ga K "Run") 0 (dVar 0)) dNil)))
def T_Run___eq__ (K : PySem.W.Frag) (LR : Addr → List D → Prop) : TDS :=
    (dRet (dAndV (dCall (dIsiO (ga K "Run") (ga K "Run") true) (dCons (dVar 1) (dCons (dC (.ad (ga K "Run"))) dNil))) (dAndV (dOp (dEq) (dSlot (ga K "Run") 2 (dVar 0)) (dSlot (ga K "Run") 2 (dVar 1))) (dOp (dEqTup LR 1 1) (dSlot (ga K "Run") 0 (dVar 0)) (dSlot (ga K "Run") 0 (dVar 1))))))
def T_require_run (K : PySem.W.Frag) : TDS :=
    (dIfS (dNot (dTB (dCall (dIsiO (ga K "Run") (ga K "Run") true) (dCons (dVar 0) (dCons (dC (.ad (ga K "Run"))) dNil))))) dNever dNext)
def T_Seat___init__ (K : PySem.W.Frag) : TDS :=
    (dSeq (dSetSlot (ga K "Seat") 1 (dVar 1) (dVar 0))
    (dSeq (dSetSlot (ga K "Seat") 0 (dVar 2) (dVar 0))
    (dSetSlot (ga K "Seat") 2 (dVar 3) (dVar 0))))
def T_Seat_greatest_name (K : PySem.W.Frag) : TDS :=
    (dRet (dOp dAdd (dSlot (ga K "Seat") 1 (dVar 0)) (dOp (dI CMulW fun i j => .int (i * j)) (dSlot (ga K "Seat") 0 (dVar 0)) (dOp (dI0 fun i j => .int (i - j)) (dOp (dI CMulW fun i j => .int (i * j)) (dC (.int 2)) (dVar 1)) (dC (.int 2))))))
def T_Seat_next_seat (K : PySem.W.Frag) (m_Seat : DRs) : TDS :=
    (dRet (dCall m_Seat (dCons (dOp dAdd (dSlot (ga K "Seat") 1 (dVar 0)) (dOp (dI CMulW fun i j => .int (i * j)) (dSlot (ga K "Seat") 0 (dVar 0)) (dOp (dI0 fun i j => .int (i - j)) (dOp (dI CMulW fun i j => .int (i * j)) (dC (.int 2)) (dVar 1)) (dC (.int 3))))) (dCons (dUn (fun x m R => ∃ i, x = .int i ∧ R (.int (-i)) m) (dSlot (ga K "Seat") 0 (dVar 0))) (dCons (dTup (dStar (dSlot (ga K "Seat") 2 (dVar 0)) (dCons (dVar 1) dNil))) dNil)))))
def T_first_seats (K : PySem.W.Frag) (m_Seat : DRs) : TDS :=
    (dRet (dDc (dISeq (dVar 0)) (dName 1) dYes (dVar 1) (dCall m_Seat (dCons (dC (.int 1)) (dCons (dC (.int 1)) (dCons (dTup dNil) dNil)))) [1]))
def T_seats_behind (K : PySem.W.Frag) (s_seen_by : DRs) (s_Seat_greatest_name : DRs) (s_Seat_next_seat : DRs) : TDS :=
    (dSeq (dPar 2 3 (dCons (dCall dDictOfM (dCons (dVar 0) dNil)) (dCons dNewDM dNil)))
    (dSeq (dFor (dISeq (dSlot (ga K "Round") 3 (dVar 1))) (dName 4) (dIfS (dTB (dOp (dInDic false) (dVar 4) (dVar 0))) (dSeq (dAsg (dDGet (dVar 0) (dVar 4)) (dName 5))
    (dSeq (dAsg (dLc (dISeq (dCall s_seen_by (dCons (dVar 1) (dCons (dVar 4) dNil)))) (dName 8) (dTB (dOp (dInDic false) (dVar 8) (dVar 0))) (dVar 8) [8]) (dName 6))
    (dSeq (dAsg (dLc (dISeq (dVar 6)) (dName 8) (dTB (dOp (dEq) (dSlot (ga K "Seat") 2 (dDGet (dVar 0) (dVar 8))) (dSlot (ga K "Seat") 2 (dVar 5)))) (dVar 8) [8]) (dName 7))
    (dIfS (dTB (dOp (dEq) (dVar 4) (dOp dIx (dVar 7) (dUn (fun x m R => ∃ i, x = .int i ∧ R (.int (-i)) m) (dC (.int 1)))))) (dSeq (dDPut (dVar 3) (dVar 4) (dMethS (ga K "Seat") s_Seat_greatest_name (dVar 5) (dCons (dCall dLen (dCons (dVar 7) dNil)) dNil)))
    (dDrop (dDPop (dVar 2) (dVar 4)))) (dDPut (dVar 2) (dVar 4) (dMethS (ga K "Seat") s_Seat_next_seat (dVar 5) (dCons (dCall dLen (dCons (dVar 7) dNil)) dNil))))))) dNext))
    (dRet (dTup (dCons (dVar 2) (dCons (dVar 3) dNil))))))
def T_Standing___init__ (K : PySem.W.Frag) : TDS :=
    (dSeq (dSetSlot (ga K "Standing") 2 (dVar 1) (dVar 0))
    (dSeq (dSetSlot (ga K "Standing") 0 (dVar 2) (dVar 0))
    (dSeq (dSetSlot (ga K "Standing") 3 (dVar 3) (dVar 0))
    (dSetSlot (ga K "Standing") 1 (dVar 4) (dVar 0)))))
def T_is_waiting (K : PySem.W.Frag) : TDS :=
    (dRet (dCall dAny (dCons (dLc (dISeq (dFld (ga K "Table") "own_running" (dVar 0))) (dName 1) dYes (dOp (dInDic true) (dVar 1) (dFld (ga K "Table") "own_names" (dVar 0))) [1]) dNil)))
def T_Table___init__ (K : PySem.W.Frag) (s_require_threads : DRs) (s_first_seats : DRs) (m_Run : DRs) : TDS :=
    (dSeq (dDrop (dCall s_require_threads (dCons (dVar 1) dNil)))
    (dSeq (dSetFld (ga K "Table") "own_threads" (dVar 1) (dVar 0))
    (dSeq (dSetFld (ga K "Table") "own_running" (dVar 1) (dVar 0))
    (dSeq (dSetFld (ga K "Table") "own_names" dNewD (dVar 0))
    (dSeq (dSetFld (ga K "Table") "own_seats" (dCall s_first_seats (dCons (dVar 1) dNil)) (dVar 0))
    (dSeq (dSetFld (ga K "Table") "own_run" (dCall m_Run (dCons (dVar 1) (dCons (dTup dNil) dNil))) (dVar 0))
    (dSetFld (ga K "Table") "own_past" (dLstM dNil) (dVar 0))))))))
def T_Table_threads (K : PySem.W.Frag) : TDS :=
    (dRet (dFld (ga K "Table") "own_threads" (dVar 0)))
def T_Table_running (K : PySem.W.Frag) : TDS :=
    (dRet (dFld (ga K "Table") "own_running" (dVar 0)))
def T_Table_names (K : PySem.W.Frag) : TDS :=
    (dSeq (dAsg (dFld (ga K "Table") "own_names" (dVar 0)) (dName 1))
    (dRet (dDc (dISeq (dFld (ga K "Table") "own_threads" (dVar 0))) (dName 2) dYes (dVar 2) (dDGet2 (dVar 1) (dVar 2) (dC .non)) [2])))
def T_Table_places (K : PySem.W.Frag) : TDS :=
    (dSeq (dAsg (dFld (ga K "Table") "own_seats" (dVar 0)) (dName 1))
    (dRet (dDc (dISeq (dFld (ga K "Table") "own_threads" (dVar 0))) (dName 2) (dTB (dOp (dInDic false) (dVar 2) (dVar 1))) (dVar 2) (dTup (dCons (dSlot (ga K "Seat") 1 (dDGet (dVar 1) (dVar 2))) (dCons (dSlot (ga K "Seat") 0 (dDGet (dVar 1) (dVar 2))) dNil))) [2])))
def T_Table_run (K : PySem.W.Frag) : TDS :=
    (dRet (dFld (ga K "Table") "own_run" (dVar 0)))
def T_Table_keep_now (K : PySem.W.Frag) (m_Standing : DRs) : TDS :=
    (dDrop (dBM "list" dAppend (dFld (ga K "Table") "own_past" (dVar 0)) (dCons (dCall m_Standing (dCons (dFld (ga K "Table") "own_running" (dVar 0)) (dCons (dFld (ga K "Table") "own_names" (dVar 0)) (dCons (dFld (ga K "Table") "own_seats" (dVar 0)) (dCons (dFld (ga K "Table") "own_run" (dVar 0)) dNil))))) dNil)))
def T_Table_go (K : PySem.W.Frag) (s_Table_keep_now : DRs) (m_Round : DRs) (s_seats_behind : DRs) (m_Run : DRs) : TDS :=
    (dSeq (dIfS (dOr (dNot (dTB (dCall (dIsiO (ga K "Round") (ga K "Round") true) (dCons (dVar 1) (dCons (dC (.ad (ga K "Round"))) dNil))))) (dTB (dOp (dNe) (dSlot (ga K "Round") 3 (dVar 1)) (dFld (ga K "Table") "own_running" (dVar 0))))) dNever dNext)
    (dSeq (dIfS (dTB (dOp (dI0 fun i j => .bl (decide (j ≤ i))) (dCall dLen (dCons (dSlot (ga K "Run") 0 (dFld (ga K "Table") "own_run" (dVar 0))) dNil)) (dC (.int 6)))) dNever dNext)
    (dSeq (dDrop (dMethI (ga K "Table") "keep_now" s_Table_keep_now (dVar 0) dNil))
    (dSeq (dAsg (dLc (dISeq (dFld (ga K "Table") "own_threads" (dVar 0))) (dName 5) (dTB (dOp (dInSeq true) (dVar 5) (dFld (ga K "Table") "own_running" (dVar 0)))) (dTup (dCons (dVar 5) dNil)) [5]) (dName 2))
    (dSeq (dAsg (dCall m_Round (dCons (dTup (dStar (dSlot (ga K "Round") 0 (dVar 1)) (dStar (dVar 2) dNil))) dNil)) (dName 3))
    (dSeq (dAsg (dCall s_seats_behind (dCons (dFld (ga K "Table") "own_seats" (dVar 0)) (dCons (dVar 1) dNil))) (dGTup 2 (dGCons (dGFld (ga K "Table") "own_seats" (dVar 0)) (dGCons (dName 4) dGNil))))
    (dSeq (dSetFld (ga K "Table") "own_names" (dStar2 (dFld (ga K "Table") "own_names" (dVar 0)) (dVar 4)) (dVar 0))
    (dSeq (dSetFld (ga K "Table") "own_run" (dCall m_Run (dCons (dFld (ga K "Table") "own_threads" (dVar 0)) (dCons (dTup (dStar (dSlot (ga K "Run") 0 (dFld (ga K "Table") "own_run" (dVar 0))) (dCons (dVar 3) dNil))) dNil))) (dVar 0))
    (dRet (dVar 4))))))))))
def T_Table_stop (K : PySem.W.Frag) (s_is_old_name : DRs) (s_Table_keep_now : DRs) : TDS :=
    (dSeq (dIfS (dOr (dNot (dTB (dCall s_is_old_name (dCons (dVar 1) dNil)))) (dTB (dOp (dInSeq true) (dVar 1) (dFld (ga K "Table") "own_running" (dVar 0))))) dNever dNext)
    (dSeq (dIfS (dTB (dOp (dEq) (dCall dLen (dCons (dFld (ga K "Table") "own_running" (dVar 0)) dNil)) (dC (.int 1)))) dNever dNext)
    (dSeq (dDrop (dMethI (ga K "Table") "keep_now" s_Table_keep_now (dVar 0) dNil))
    (dSeq (dSetFld (ga K "Table") "own_running" (dCall dTupleOf (dCons (dLc (dISeq (dFld (ga K "Table") "own_running" (dVar 0))) (dName 2) (dTB (dOp (dNe) (dVar 2) (dVar 1))) (dVar 2) [2]) dNil)) (dVar 0))
    (dRet (dDGet2 (dFld (ga K "Table") "own_names" (dVar 0)) (dVar 1) (dC .non)))))))
def T_Table_finish (K : PySem.W.Frag) (s_is_waiting : DRs) (s_Table_go : DRs) (m_Round : DRs) : TDS :=
    (dSeq (dIfS (dNot (dTB (dCall (dIsi "bool") (dCons (dVar 1) (dCons (dC (.ty "bool")) dNil))))) dNever dNext)
    (dSeq (dPar 2 3 (dCons (dIf (dTB (dVar 1)) (dTup (dCons (dFld (ga K "Table") "own_running" (dVar 0)) dNil)) (dCall dTupleOf (dCons (dLc (dISeq (dFld (ga K "Table") "own_running" (dVar 0))) (dName 4) dYes (dTup (dCons (dVar 4) dNil)) [4]) dNil))) (dCons (dC (.int 0)) dNil)))
    (dSeq (dWhile (dAnd (dTB (dCall s_is_waiting (dCons (dVar 0) dNil))) (dTB (dOp (dI0 fun i j => .bl (decide (i < j))) (dCall dLen (dCons (dSlot (ga K "Run") 0 (dFld (ga K "Table") "own_run" (dVar 0))) dNil)) (dC (.int 6))))) (dSeq (dDrop (dMethI (ga K "Table") "go" s_Table_go (dVar 0) (dCons (dCall m_Round (dCons (dVar 2) dNil)) dNil)))
    (dAug 3 (dC (.int 1)) dIAdd)))
    (dRet (dVar 3)))))
def T_Table_undo (K : PySem.W.Frag) (s_is_integer : DRs) : TDS :=
    (dSeq (dIfS (dOr (dNot (dTB (dCall s_is_integer (dCons (dVar 1) dNil)))) (dTB (dOp (dI0 fun i j => .bl (decide (i < j))) (dVar 1) (dC (.int 0))))) dNever dNext)
    (dSeq (dIfS (dTB (dOp (dI0 fun i j => .bl (decide (j < i))) (dVar 1) (dCall dLen (dCons (dFld (ga K "Table") "own_past" (dVar 0)) dNil)))) dNever dNext)
    (dSeq (dFor (dIRng1 (dCons (dVar 1) dNil)) (dName 2) (dSeq (dAsg (dBM "list" dPop (dFld (ga K "Table") "own_past" (dVar 0)) dNil) (dName 3))
    (dSeq (dAsg (dTup (dCons (dSlot (ga K "Standing") 2 (dVar 3)) (dCons (dSlot (ga K "Standing") 0 (dVar 3)) dNil))) (dGTup 2 (dGCons (dGFld (ga K "Table") "own_running" (dVar 0)) (dGCons (dGFld (ga K "Table") "own_names" (dVar 0)) dGNil))))
    (dAsg (dTup (dCons (dSlot (ga K "Standing") 3 (dVar 3)) (dCons (dSlot (ga K "Standing") 1 (dVar 3)) dNil))) (dGTup 2 (dGCons (dGFld (ga K "Table") "own_seats" (dVar 0)) (dGCons (dGFld (ga K "Table") "own_run" (dVar 0)) dGNil)))))))
    (dRet (dFld (ga K "Table") "own_running" (dVar 0))))))
def T_Table_twin (K : PySem.W.Frag) (m_Table : DRs) : TDS :=
    (dSeq (dAsg (dCall m_Table (dCons (dFld (ga K "Table") "own_threads" (dVar 0)) dNil)) (dName 1))
    (dSeq (dAsg (dTup (dCons (dFld (ga K "Table") "own_running" (dVar 0)) (dCons (dFld (ga K "Table") "own_names" (dVar 0)) dNil))) (dGTup 2 (dGCons (dGFld (ga K "Table") "own_running" (dVar 1)) (dGCons (dGFld (ga K "Table") "own_names" (dVar 1)) dGNil))))
    (dSeq (dAsg (dTup (dCons (dFld (ga K "Table") "own_seats" (dVar 0)) (dCons (dFld (ga K "Table") "own_run" (dVar 0)) dNil))) (dGTup 2 (dGCons (dGFld (ga K "Table") "own_seats" (dVar 1)) (dGCons (dGFld (ga K "Table") "own_run" (dVar 1)) dGNil))))
    (dSeq (dSetFld (ga K "Table") "own_past" (dCall dListOfM (dCons (dFld (ga K "Table") "own_past" (dVar 0)) dNil)) (dVar 1))
    (dRet (dVar 1))))))
def T_Table___bool__ (K : PySem.W.Frag) : TDS :=
    (dRet (dCall dAny (dCons (dLc (dISeq (dFld (ga K "Table") "own_running" (dVar 0))) (dName 1) dYes (dOp (dInDic true) (dVar 1) (dFld (ga K "Table") "own_names" (dVar 0))) [1]) dNil)))
def T_Table___len__ (K : PySem.W.Frag) : TDS :=
    (dRet (dCall dLen (dCons (dSlot (ga K "Run") 0 (dFld (ga K "Table") "own_run" (dVar 0))) dNil)))
def T_Table___eq__ (K : PySem.W.Frag) (s_Run___eq__ : DRs) : TDS :=
    (dRet (dAndV (dCall (dIsiI (ga K "Table") (ga K "Table") true) (dCons (dVar 1) (dCons (dC (.ad (ga K "Table"))) dNil))) (dAndV (dOp (dEq) (dFld (ga K "Table") "own_threads" (dVar 0)) (dFld (ga K "Table") "own_threads" (dVar 1))) (dAndV (dOp (dEq) (dFld (ga K "Table") "own_running" (dVar 0)) (dFld (ga K "Table") "own_running" (dVar 1))) (dOp (dOwnC (ga K "Run") s_Run___eq__) (dFld (ga K "Table") "own_run" (dVar 0)) (dFld (ga K "Table") "own_run" (dVar 1)))))))
def T_Table___str__ (K : PySem.W.Frag) : TDS :=
    (dSeq (dPar 1 2 (dCons (dCall dLen (dCons (dSlot (ga K "Run") 0 (dFld (ga K "Table") "own_run" (dVar 0))) dNil)) (dCons (dCall dLenDic (dCons (dFld (ga K "Table") "own_names" (dVar 0)) dNil)) dNil)))
    (dRet (dJoined [(dC (.str "table of ")), (dFmt (dCall dLen (dCons (dFld (ga K "Table") "own_threads" (dVar 0)) dNil))), (dC (.str " threads: ")), (dFmt (dVar 1)), (dC (.str " rounds, ")), (dFmt (dVar 2)), (dC (.str " named"))])))
def T_is_number_text (K : PySem.W.Frag) : TDS :=
    (dRet (dAndV (dOp (dNeS) (dVar 0) (dC (.str ""))) (dAndV (dCall dAll (dCons (dLc (dIStr (dVar 0)) (dName 1) dYes (dOp (dInSign) (dVar 1) (dC (.str "0123456789"))) [1]) dNil)) (dOrV (dOp (dEqS) (dVar 0) (dC (.str "0"))) (dOp (dNeS) (dOp dIx (dVar 0) (dC (.int 0))) (dC (.str "0")))))))
def T_are_number_texts (K : PySem.W.Frag) (s_is_number_text : DRs) : TDS :=
    (dRet (dCall dAll (dCons (dLc (dISeq (dBM "str" dSplit (dVar 0) (dCons (dC (.str " ")) dNil))) (dName 1) dYes (dCall s_is_number_text (dCons (dVar 1) dNil)) [1]) dNil)))
def T_numbers_in (K : PySem.W.Frag) : TDS :=
    (dRet (dCall dTupleOf (dCons (dLc (dISeq (dBM "str" dSplit (dVar 0) (dCons (dC (.str " ")) dNil))) (dName 1) dYes (dCall dIntS (dCons (dVar 1) dNil)) [1]) dNil)))
def T_names_text (K : PySem.W.Frag) : TDS :=
    (dRet (dBM "str" dJoin (dC (.str " ")) (dCons (dLc (dISeq (dVar 0)) (dName 1) dYes (dCall (fun ds m R => ∃ i, ds = [.int i] ∧ i.natAbs.log2 < 1920 ∧ R (.str (toString i)) m) (dCons (dVar 1) dNil)) [1]) dNil)))
def T_run_text (K : PySem.W.Frag) (s_Round___str__ : DRs) (s_names_text : DRs) : TDS :=
    (dRet (dOrT (dBM "str" dJoin (dC (.str ", ")) (dCons (dLc (dISeq (dSlot (ga K "Run") 0 (dVar 0))) (dName 1) dYes (dCall (dStrOwn (ga K "Round") s_Round___str__) (dCons (dVar 1) dNil)) [1]) dNil)) (dOp dAdd (dC (.str "none ")) (dCall s_names_text (dCons (dSlot (ga K "Run") 2 (dVar 0)) dNil)))))
def T_write_run (K : PySem.W.Frag) (s_require_run : DRs) (s_run_text : DRs) : TDS :=
    (dSeq (dDrop (dCall s_require_run (dCons (dVar 0) dNil)))
    (dRet (dCall s_run_text (dCons (dVar 0) dNil))))
def T_require_text (K : PySem.W.Frag) : TDS :=
    (dIfS (dNot (dTB (dCall (dIsi "str") (dCons (dVar 0) (dCons (dC (.ty "str")) dNil))))) dNever dNext)
def T_require_pieces (K : PySem.W.Frag) : TDS :=
    (dSeq (dAsg (dNextNot (tbP K "require_pieces") (dVar 0)) (dName 1))
    (dIfS (dTB (dOp (dIsNot) (dVar 1) (dC .non))) dNever dNext))
def T_is_round_text (K : PySem.W.Frag) (s_are_number_texts : DRs) : TDS :=
    (dRet (dCall dAll (dCons (dLc (dISeq (dBM "str" dSplit (dVar 0) (dCons (dC (.str "|")) dNil))) (dName 1) dYes (dCall s_are_number_texts (dCons (dVar 1) dNil)) [1]) dNil)))
def T_made_round (K : PySem.W.Frag) (m_Round : DRs) (s_numbers_in : DRs) : TDS :=
    (dRet (dCall m_Round (dCons (dCall dTupleOf (dCons (dLc (dISeq (dBM "str" dSplit (dVar 0) (dCons (dC (.str "|")) dNil))) (dName 1) dYes (dCall s_numbers_in (dCons (dVar 1) dNil)) [1]) dNil)) dNil)))
def T_require_found (K : PySem.W.Frag) : TDS :=
    (dIfS (dTB (dOp (dIs) (dVar 0) (dC .non))) dNever dNext)
def T_made_run (K : PySem.W.Frag) (m_Run : DRs) : TDS :=
    (dSeq (dIfS (dOr (dTB (dOp (dI0 fun i j => .bl (decide (j < i))) (dCall dLen (dCons (dVar 0) dNil)) (dC (.int 6)))) (dNot (dTB (dCall dAll (dCons (dLc (dISeq (dVar 0)) (dName 2) dYes (dOp (dIsNot) (dVar 2) (dC .non)) [2]) dNil))))) (dRet (dC .non)) dNext)
    (dSeq (dAsg (dSlot (ga K "Round") 3 (dOp dIx (dVar 0) (dC (.int 0)))) (dName 1))
    (dRet (dIf (dTB (dCall dAll (dCons (dLc (dISeq (dVar 0)) (dName 2) dYes (dOp (dEq) (dSlot (ga K "Round") 3 (dVar 2)) (dVar 1)) [2]) dNil))) (dCall m_Run (dCons (dVar 1) (dCons (dVar 0) dNil))) (dC .non)))))
def T_read_run (K : PySem.W.Frag) (s_require_text : DRs) (s_require_pieces : DRs) (s_are_number_texts : DRs) (s_numbers_in : DRs) (s_are_threads : DRs) (m_Run : DRs) (s_is_round_text : DRs) (s_made_run : DRs) (s_made_round : DRs) (s_require_found : DRs) : TDS :=
    (dSeq (dDrop (dCall s_require_text (dCons (dVar 0) dNil)))
    (dSeq (dIfS (dTB (dOp (dEqS) (dSl (dVar 0) dNoPart (dPart (dCall dLen (dCons (dC (.str "none ")) dNil)))) (dC (.str "none ")))) (dSeq (dDrop (dCall s_require_pieces (dCons (dLst (dCons (dCall s_are_number_texts (dCons (dSl (dVar 0) (dPart (dCall dLen (dCons (dC (.str "none ")) dNil))) dNoPart) dNil)) dNil)) dNil)))
    (dSeq (dAsg (dCall s_numbers_in (dCons (dSl (dVar 0) (dPart (dCall dLen (dCons (dC (.str "none ")) dNil))) dNoPart) dNil)) (dName 1))
    (dAsg (dIf (dTB (dCall s_are_threads (dCons (dVar 1) dNil))) (dCall m_Run (dCons (dVar 1) (dCons (dTup dNil) dNil))) (dC .non)) (dName 2)))) (dSeq (dAsg (dBM "str" dSplit (dVar 0) (dCons (dC (.str ", ")) dNil)) (dName 3))
    (dSeq (dDrop (dCall s_require_pieces (dCons (dLc (dISeq (dVar 3)) (dName 4) dYes (dCall s_is_round_text (dCons (dVar 4) dNil)) [4]) dNil)))
    (dAsg (dCall s_made_run (dCons (dCall dTupleOf (dCons (dLc (dISeq (dVar 3)) (dName 4) dYes (dCall s_made_round (dCons (dVar 4) dNil)) [4]) dNil)) dNil)) (dName 2)))))
    (dSeq (dDrop (dCall s_require_found (dCons (dVar 2) dNil)))
    (dRet (dVar 2)))))
def T__law_filled (K : PySem.W.Frag) : TDS :=
    (dSeq (dAsg (dIf (dTB (dOp (dI0 fun i j => .bl (decide (i < j))) (dVar 1) (dCall dLen (dCons (dVar 0) dNil)))) (dOp dIx (dVar 0) (dVar 1)) (dOp dAdd (dOp (dI CMulW fun i j => .int (i * j)) (dC (.int 79)) (dVar 1)) (dC (.int 43)))) (dName 2))
    (dSeq (dAsg (dOp (dI (fun _ j => 0 < j) fun i j => .int (i % j)) (dCall dInt (dCons (dCall (fun ds m R => ∃ i, ds = [.int i] ∧ R (.int (if i < 0 then -i else i)) m) (dCons (dVar 2) dNil)) dNil)) (dOp (dI CPowW fun i j => .int (i ^ j.toNat)) (dOp (dI CPowW fun i j => .int (i ^ j.toNat)) (dC (.int 10)) (dC (.int 60))) (dC (.int 10)))) (dName 3))
    (dSeq (dAsg (dOp (dI (fun _ j => 0 < j) fun i j => .int (i % j)) (dCall dInt (dCons (dOp dAdd (dOp dAdd (dOp dAdd (dVar 3) (dOp (dI CMulW fun i j => .int (i * j)) (dC (.int 8191019)) (dVar 1))) (dOp (dI CMulW fun i j => .int (i * j)) (dC (.int 32452843)) (dCall dInt (dCons (dOp (dI0 fun i j => .bl (decide (i < j))) (dVar 2) (dC (.int 0))) dNil)))) (dC (.int 719))) dNil)) (dC (.int 2305843009213693921))) (dName 4))
    (dRet (dLstM (dCons (dCall (fun ds m R => ∃ i j, ds = [.int i, .int j] ∧ R (.int (if j > i then j else i)) m) (dCons (dC (.int 0)) (dCons (dOp (dI0 fun i j => .int (i - j)) (dVar 3) (dOp (dI CPowW fun i j => .int (i ^ j.toNat)) (dC (.int 10)) (dC (.int 18)))) dNil))) (dCons (dVar 4) (dCons (dC (.int 0)) dNil))))))))
def T__law_dip (K : PySem.W.Frag) : TDS :=
    (dSeq (dIfS (dTB (dOp (dI0 fun i j => .bl (decide (j < i))) (dOp dIx (dVar 0) (dC (.int 0))) (dC (.int 0)))) (dSeq (dAsg (dOp (dI (fun _ j => 0 < j) fun i j => .int (i % j)) (dCall dInt (dCons (dOp dIx (dVar 0) (dC (.int 0))) dNil)) (dVar 1)) (dName 2))
    (dSeq (dSetIx (dOp (dI CDivW fun i j => .int (i / j)) (dOp dIx (dVar 0) (dC (.int 0))) (dVar 1)) (dVar 0) (dC (.int 0)))
    (dRet (dVar 2)))) dNext)
    (dSeq (dSetIx (dOp dAdd (dOp dIx (dVar 0) (dC (.int 2))) (dC (.int 1))) (dVar 0) (dC (.int 2)))
    (dSeq (dAsg (dOp (dI (fun _ j => 0 < j) fun i j => .int (i % j)) (dCall dInt (dCons (dOp dAdd (dOp (dI CMulW fun i j => .int (i * j)) (dOp dIx (dVar 0) (dC (.int 1))) (dC (.int 3935559000370003845))) (dOp (dI CMulW fun i j => .int (i * j)) (dOp dIx (dVar 0) (dC (.int 2))) (dC (.int 2691343689449507681)))) dNil)) (dC (.int 2305843009213693951))) (dName 3))
    (dSeq (dAsg (dOp (dI (fun _ j => 0 < j) fun i j => .int (i % j)) (dCall dInt (dCons (dOp dAdd (dOp (dI CMulW fun i j => .int (i * j)) (dVar 3) (dVar 3)) (dOp (dI CMulW fun i j => .int (i * j)) (dC (.int 40503)) (dOp dIx (dVar 0) (dC (.int 2))))) dNil)) (dC (.int 1152921504606846883))) (dName 4))
    (dRet (dOp (dI (fun _ j => 0 < j) fun i j => .int (i % j)) (dCall dInt (dCons (dOp (dI CDivW fun i j => .int (i / j)) (dOp (dI (fun _ j => 0 < j) fun i j => .int (i % j)) (dCall dInt (dCons (dOp dAdd (dOp (dI CMulW fun i j => .int (i * j)) (dVar 4) (dC (.int 11))) (dVar 3)) dNil)) (dC (.int 4611686018427387847))) (dC (.int 65536))) dNil)) (dVar 1)))))))
def T__law_choose (K : PySem.W.Frag) (s__law_dip : DRs) : TDS :=
    (dRet (dOp dIx (dVar 1) (dCall s__law_dip (dCons (dVar 0) (dCons (dCall dLen (dCons (dVar 1) dNil)) dNil)))))
def T__law_shuffled (K : PySem.W.Frag) (s__law_dip : DRs) : TDS :=
    (dSeq (dAsg (dCall dListOfM (dCons (dVar 1) dNil)) (dName 2))
    (dRet (dLc (dIRng1 (dCons (dCall dLen (dCons (dVar 1) dNil)) dNil)) (dName 3) dYes (dBM "list" dPopAt (dVar 2) (dCons (dCall s__law_dip (dCons (dVar 0) (dCons (dCall dLen (dCons (dVar 2) dNil)) dNil))) dNil)) [3])))
def T__law_old_names (K : PySem.W.Frag) (s__law_choose : DRs) (s__law_dip : DRs) : TDS :=
    (dSeq (dAsg (dCall s__law_choose (dCons (dVar 0) (dCons (dLst (dCons (dC (.int 6)) (dCons (dC (.int 9)) (dCons (dC (.int 30)) (dCons (dOp (dI CPowW fun i j => .int (i ^ j.toNat)) (dC (.int 10)) (dC (.int 9))) (dCons (dOp (dI CPowW fun i j => .int (i ^ j.toNat)) (dC (.int 10)) (dC (.int 58))) dNil)))))) dNil))) (dName 2))
    (dRet (dCall dTupleOf (dCons (dLc (dIRng1 (dCons (dVar 1) dNil)) (dName 3) dYes (dOp dAdd (dCall s__law_dip (dCons (dVar 0) (dCons (dVar 2) dNil))) (dOp (dI CMulW fun i j => .int (i * j)) (dVar 3) (dVar 2))) [3]) dNil))))
def T__law_blocks (K : PySem.W.Frag) (s__law_shuffled : DRs) (s__law_choose : DRs) (s__law_dip : DRs) : TDS :=
    (dSeq (dPar 2 3 (dCons (dCall s__law_shuffled (dCons (dVar 0) (dCons (dCall dListOf (dCons (dVar 1) dNil)) dNil))) (dCons (dLstM dNil) dNil)))
    (dSeq (dAsg (dCall s__law_choose (dCons (dVar 0) (dCons (dLst (dCons (dC (.int 1)) (dCons (dC (.int 2)) (dCons (dC (.int 2)) (dCons (dC (.int 3)) dNil))))) dNil))) (dName 4))
    (dSeq (dFor (dISeq (dVar 2)) (dName 5) (dIfS (dOr (dTB (dOp (dEqNil) (dVar 3) (dLst dNil))) (dTB (dOp (dEq) (dCall s__law_dip (dCons (dVar 0) (dCons (dVar 4) dNil))) (dC (.int 0))))) (dDrop (dBM "list" dAppend (dVar 3) (dCons (dLstM (dCons (dVar 5) dNil)) dNil))) (dDrop (dBM "list" dAppend (dOp dIx (dVar 3) (dUn (fun x m R => ∃ i, x = .int i ∧ R (.int (-i)) m) (dC (.int 1)))) (dCons (dVar 5) dNil)))))
    (dRet (dCall dTupleOf (dCons (dLc (dISeq (dVar 3)) (dName 6) dYes (dCall dTupleOf (dCons (dCall dSortI (dCons (dVar 6) dNil)) dNil)) [6]) dNil))))))
def T__law_standing (K : PySem.W.Frag) (s_Table_running : DRs) (s_Table_names : DRs) (s_Table_places : DRs) (s_write_run : DRs) (s_Table_run : DRs) (s_Table___str__ : DRs) (s_Table___len__ : DRs) (s_Table___bool__ : DRs) : TDS :=
    (dSeq (dAsg (dLst (dCons (dProp (ga K "Table") s_Table_running (dVar 0)) (dCons (dItems (dProp (ga K "Table") s_Table_names (dVar 0))) (dCons (dItems (dProp (ga K "Table") s_Table_places (dVar 0))) (dCons (dCall s_write_run (dCons (dProp (ga K "Table") s_Table_run (dVar 0)) dNil)) dNil))))) (dName 1))
    (dRet (dCall dRepr (dCons (dOp dAdd (dVar 1) (dLst (dCons (dCall (dStrOwn (ga K "Table") s_Table___str__) (dCons (dVar 0) dNil)) (dCons (dCall (dLenOwn (ga K "Table") s_Table___len__) (dCons (dVar 0) dNil)) (dCons (dCall (dBoolOwn (ga K "Table") s_Table___bool__) (dCons (dVar 0) dNil)) dNil))))) dNil))))
def T__law_replayed_right (K : PySem.W.Frag) (s_read_run : DRs) (s_write_run : DRs) (s_Table_run : DRs) (s_Run___eq__ : DRs) (m_Table : DRs) (s_Table_threads : DRs) (s_Run___len__ : DRs) (s_Table_go : DRs) (s_Run___getitem__ : DRs) (s_Table___len__ : DRs) (s_Table_running : DRs) (s_Table_names : DRs) (s_Table_places : DRs) : TDS :=
    (dSeq (dAsg (dCall s_read_run (dCons (dCall s_write_run (dCons (dProp (ga K "Table") s_Table_run (dVar 0)) dNil)) dNil)) (dName 1))
    (dSeq (dIfS (dTB (dOp (dOwnNe (ga K "Run") s_Run___eq__) (dVar 1) (dProp (ga K "Table") s_Table_run (dVar 0)))) (dRet (dC (.bl false))) dNext)
    (dSeq (dAsg (dCall m_Table (dCons (dProp (ga K "Table") s_Table_threads (dVar 0)) dNil)) (dName 2))
    (dSeq (dFor (dIRng1 (dCons (dCall (dLenOwn (ga K "Run") s_Run___len__) (dCons (dVar 1) dNil)) dNil)) (dName 3) (dDrop (dMethI (ga K "Table") "go" s_Table_go (dVar 2) (dCons (dOwnIx (ga K "Run") s_Run___getitem__ (dVar 1) (dVar 3)) dNil))))
    (dSeq (dIfS (dOr (dTB (dOp (dOwnNe (ga K "Run") s_Run___eq__) (dProp (ga K "Table") s_Table_run (dVar 2)) (dVar 1))) (dOr (dTB (dOp (dNe) (dCall (dLenOwn (ga K "Table") s_Table___len__) (dCons (dVar 2) dNil)) (dCall (dLenOwn (ga K "Table") s_Table___len__) (dCons (dVar 0) dNil)))) (dTB (dOp (dNe) (dProp (ga K "Table") s_Table_running (dVar 2)) (dProp (ga K "Table") s_Table_threads (dVar 0)))))) (dRet (dC (.bl false))) dNext)
    (dSeq (dFor (dISeq (dProp (ga K "Table") s_Table_running (dVar 0))) (dName 4) (dSeq (dIfS (dTB (dOp (dNe) (dDGet (dProp (ga K "Table") s_Table_names (dVar 2)) (dVar 4)) (dDGet (dProp (ga K "Table") s_Table_names (dVar 0)) (dVar 4)))) (dRet (dC (.bl false))) dNext)
    (dIfS (dTB (dOp (dNe) (dDGet2 (dProp (ga K "Table") s_Table_places (dVar 2)) (dVar 4) (dC .non)) (dDGet2 (dProp (ga K "Table") s_Table_places (dVar 0)) (dVar 4) (dC .non)))) (dRet (dC (.bl false))) dNext)))
    (dRet (dC (.bl true)))))))))
def T__law_finished_right (K : PySem.W.Frag) (s_Table_twin : DRs) (s__law_choose : DRs) (s_Table_finish : DRs) (s__law_standing : DRs) (s_Table___len__ : DRs) (s__law_replayed_right : DRs) (s_Table_undo : DRs) (s_Table_running : DRs) (s_Table___eq__ : DRs) (s_Table_go : DRs) (m_Round : DRs) : TDS :=
    (dSeq (dPar 2 3 (dCons (dMethI (ga K "Table") "twin" s_Table_twin (dVar 1) dNil) (dCons (dCall s__law_choose (dCons (dVar 0) (dCons (dLst (dCons (dC (.bl true)) (dCons (dC (.bl false)) dNil))) dNil))) dNil)))
    (dSeq (dPar 4 5 (dCons (dMethK (ga K "Table") "finish" s_Table_finish (dVar 2) (dVar 3)) (dCons (dCall s__law_standing (dCons (dVar 1) dNil)) dNil)))
    (dSeq (dIfS (dOr (dTB (dOp (dNe) (dVar 4) (dOp (dI0 fun i j => .int (i - j)) (dCall (dLenOwn (ga K "Table") s_Table___len__) (dCons (dVar 2) dNil)) (dCall (dLenOwn (ga K "Table") s_Table___len__) (dCons (dVar 1) dNil))))) (dNot (dTB (dCall s__law_replayed_right (dCons (dVar 2) dNil))))) (dRet (dC (.bl false))) dNext)
    (dSeq (dAsg (dCall s__law_standing (dCons (dVar 2) dNil)) (dName 6))
    (dSeq (dIfS (dOr (dTB (dOp (dNe) (dMethK (ga K "Table") "undo" s_Table_undo (dVar 2) (dVar 4)) (dProp (ga K "Table") s_Table_running (dVar 1)))) (dOr (dTB (dOp (dOwnNe (ga K "Table") s_Table___eq__) (dVar 2) (dVar 1))) (dTB (dOp (dNeS) (dCall s__law_standing (dCons (dVar 2) dNil)) (dVar 5))))) (dRet (dC (.bl false))) dNext)
    (dSeq (dFor (dIRng1 (dCons (dVar 4) dNil)) (dName 7) (dDrop (dMethI (ga K "Table") "go" s_Table_go (dVar 2) (dCons (dCall m_Round (dCons (dIf (dTB (dVar 3)) (dTup (dCons (dProp (ga K "Table") s_Table_running (dVar 2)) dNil)) (dCall dTupleOf (dCons (dLc (dISeq (dProp (ga K "Table") s_Table_running (dVar 2))) (dName 8) dYes (dTup (dCons (dVar 8) dNil)) [8]) dNil))) dNil)) dNil))))
    (dRet (dAndV (dOp (dEqS) (dCall s__law_standing (dCons (dVar 2) dNil)) (dVar 6)) (dOp (dEqS) (dCall s__law_standing (dCons (dVar 1) dNil)) (dVar 5))))))))))
def T__law_right (K : PySem.W.Frag) (m_Table : DRs) (s__law_old_names : DRs) (s__law_dip : DRs) (s__law_standing : DRs) (s_Table_undo : DRs) (s_Table_running : DRs) (s_Table_stop : DRs) (s__law_choose : DRs) (s_Table___len__ : DRs) (s_Table_go : DRs) (m_Round : DRs) (s__law_blocks : DRs) (s__law_replayed_right : DRs) (s__law_finished_right : DRs) (s_Table_undo0 : DRs) (s_Table___eq__ : DRs) (s_Table_threads : DRs) : TDS :=
    (dSeq (dAsg (dCall m_Table (dCons (dCall s__law_old_names (dCons (dVar 0) (dCons (dOp dAdd (dC (.int 1)) (dCall s__law_dip (dCons (dVar 0) (dCons (dC (.int 5)) dNil)))) dNil))) dNil)) (dName 1))
    (dSeq (dAsg (dLstM dNil) (dName 2))
    (dSeq (dFor (dIRng1 (dCons (dOp dAdd (dC (.int 4)) (dCall s__law_dip (dCons (dVar 0) (dCons (dC (.int 6)) dNil)))) dNil)) (dName 3) (dSeq (dPar 4 5 (dCons (dCall s__law_standing (dCons (dVar 1) dNil)) (dCons (dCall s__law_dip (dCons (dVar 0) (dCons (dC (.int 6)) dNil))) dNil)))
    (dSeq (dIfS (dAnd (dTB (dOp (dEq) (dVar 5) (dC (.int 0)))) (dTB (dOp (dNeNil) (dVar 2) (dLst dNil)))) (dSeq (dAsg (dOp dAdd (dC (.int 1)) (dCall s__law_dip (dCons (dVar 0) (dCons (dCall dLen (dCons (dVar 2) dNil)) dNil)))) (dName 6))
    (dSeq (dDrop (dMethK (ga K "Table") "undo" s_Table_undo (dVar 1) (dVar 6)))
    (dSeq (dIfS (dTB (dOp (dNeS) (dCall s__law_standing (dCons (dVar 1) dNil)) (dOp dIx (dVar 2) (dOp (dI0 fun i j => .int (i - j)) (dCall dLen (dCons (dVar 2) dNil)) (dVar 6))))) (dRet (dC (.bl false))) dNext)
    (dAsg (dSlM (dVar 2) dNoPart (dPart (dOp (dI0 fun i j => .int (i - j)) (dCall dLen (dCons (dVar 2) dNil)) (dVar 6)))) (dName 2))))) (dIfS (dAnd (dTB (dOp (dI0 fun i j => .bl (decide (i < j))) (dVar 5) (dC (.int 3)))) (dTB (dOp (dI0 fun i j => .bl (decide (j < i))) (dCall dLen (dCons (dProp (ga K "Table") s_Table_running (dVar 1)) dNil)) (dC (.int 1))))) (dSeq (dDrop (dMethI (ga K "Table") "stop" s_Table_stop (dVar 1) (dCons (dCall s__law_choose (dCons (dVar 0) (dCons (dProp (ga K "Table") s_Table_running (dVar 1)) dNil))) dNil)))
    (dDrop (dBM "list" dAppend (dVar 2) (dCons (dVar 4) dNil)))) (dIfS (dTB (dOp (dI0 fun i j => .bl (decide (i < j))) (dCall (dLenOwn (ga K "Table") s_Table___len__) (dCons (dVar 1) dNil)) (dC (.int 6)))) (dSeq (dDrop (dMethI (ga K "Table") "go" s_Table_go (dVar 1) (dCons (dCall m_Round (dCons (dCall s__law_blocks (dCons (dVar 0) (dCons (dProp (ga K "Table") s_Table_running (dVar 1)) dNil))) dNil)) dNil)))
    (dDrop (dBM "list" dAppend (dVar 2) (dCons (dVar 4) dNil)))) dNext)))
    (dIfS (dNot (dTB (dCall s__law_replayed_right (dCons (dVar 1) dNil)))) (dRet (dC (.bl false))) dNext))))
    (dSeq (dIfS (dNot (dTB (dCall s__law_finished_right (dCons (dVar 0) (dCons (dVar 1) dNil))))) (dRet (dC (.bl false))) dNext)
    (dSeq (dFor (dISeq (dRevL (dVar 2))) (dName 7) (dSeq (dDrop (dMethI (ga K "Table") "undo" s_Table_undo0 (dVar 1) dNil))
    (dIfS (dTB (dOp (dNeS) (dCall s__law_standing (dCons (dVar 1) dNil)) (dVar 7))) (dRet (dC (.bl false))) dNext)))
    (dRet (dAndV (dOp (dOwnC (ga K "Table") s_Table___eq__) (dVar 1) (dCall m_Table (dCons (dProp (ga K "Table") s_Table_threads (dVar 1)) dNil))) (dOp (dEq) (dCall (dLenOwn (ga K "Table") s_Table___len__) (dCons (dVar 1) dNil)) (dC (.int 0))))))))))
def T_law (K : PySem.W.Frag) (s__law_filled : DRs) (s__law_right : DRs) : TDS :=
    (dSeq (dFor (dIRng1 (dCons (dCall (fun ds m R => ∃ i j, ds = [.int i, .int j] ∧ R (.int (if j > i then j else i)) m) (dCons (dC (.int 1)) (dCons (dCall (fun ds m R => ∃ i j, ds = [.int i, .int j] ∧ R (.int (if j < i then j else i)) m) (dCons (dC (.int 4)) (dCons (dCall dLen (dCons (dVar 0) dNil)) dNil))) dNil))) dNil)) (dName 1) (dSeq (dAsg (dCall s__law_filled (dCons (dVar 0) (dCons (dVar 1) dNil))) (dName 2))
    (dFor (dIRng1 (dCons (dC (.int 4)) dNil)) (dName 3) (dIfS (dNot (dTB (dCall s__law_right (dCons (dVar 2) dNil)))) (dRet (dC (.bl false))) dNext))))
    (dRet (dC (.bl true))))
end FN
set_option Elab.async false
set_option linter.all false
set_option maxRecDepth 100000
set_option maxHeartbeats 4000000
namespace W82
open PySem PySem.Spec PyProof.Rows L2 SlX DL FN
theorem wk_is_integer {w : World} {K : PySem.W.Frag} {mg : Str → Option Value} {base h : Heap} (k : Kn K mg base h) {sp : DRs}  (hl : ∀ ds m R, sp ds m R → ds.length = 1) (hp : ∀ ds m R, sp ds m R → T_is_integer K (endsD m R) (startD ["value"] ds) m) :
    FnD PG w K mg base 1 (ga K "is_integer") sp := by
  obtain ⟨fd, F⟩ := k.c.d 0
  have S : FnScope ["value"] ["value"] (defScope (topOf PG 14)) := ⟨rfl, rfl, rfl, by decide +kernel, rfl, by decide +kernel, by decide +kernel⟩
  exact FnOk.pos (fn_body F S hl fun cdv A outer s H E hr => ⟨T_is_integer K, (ds_one (dst_ret (de_and (de_callB (cd_isi (U := "int")) k.f_isinstance b_isinstance (da_cons (dv 0) (da_cons (de_gty k.f_int b_int) da_nil))) (de_and (de_not (de_callB (cd_isi (U := "bool")) k.f_isinstance b_isinstance (da_cons (dv 0) (da_cons (de_gty k.f_bool b_bool) da_nil)))) (de_one (de_chain od_lt od_lt (de_un ud_neg (de_gint k.i_GREATEST)) (dv 0) (de_gint k.i_GREATEST))))))), hp⟩)
    (F.bindsN fun _ _ _ _ _ _ us hl => match us, hl with | [_], _ => rfl)

theorem wk_is_between {w : World} {K : PySem.W.Frag} {mg : Str → Option Value} {base h : Heap} (k : Kn K mg base h) {sp s_is_integer : DRs} (gh_is_integer : GD PG w K mg base 1 (ga K "is_integer") s_is_integer) (hl : ∀ ds m R, sp ds m R → ds.length = 3) (hp : ∀ ds m R, sp ds m R → T_is_between K s_is_integer (endsD m R) (startD ["value", "low", "high"] ds) m) :
    FnD PG w K mg base 2 (ga K "is_between") sp := by
  obtain ⟨fd, F⟩ := k.c.d 1
  have S : FnScope ["value", "low", "high"] ["value", "low", "high"] (defScope (topOf PG 15)) := ⟨rfl, rfl, rfl, by decide +kernel, rfl, by decide +kernel, by decide +kernel⟩
  exact FnOk.pos (fn_body F S hl fun cdv A outer s H E hr => ⟨T_is_between K s_is_integer, (ds_one (dst_ret (de_and (de_call gh_is_integer k.g_is_integer hr (da_cons (dv 0) da_nil)) (de_one (de_chain od_le od_le (dv 1) (dv 0) (dv 2)))))), hp⟩)
    (F.bindsN fun _ _ _ _ _ _ us hl => match us, hl with | [_, _, _], _ => rfl)

theorem wk_is_old_name {w : World} {K : PySem.W.Frag} {mg : Str → Option Value} {base h : Heap} (k : Kn K mg base h) {sp s_is_integer : DRs} (gh_is_integer : GD PG w K mg base 1 (ga K "is_integer") s_is_integer) (hl : ∀ ds m R, sp ds m R → ds.length = 1) (hp : ∀ ds m R, sp ds m R → T_is_old_name K s_is_integer (endsD m R) (startD ["value"] ds) m) :
    FnD PG w K mg base 2 (ga K "is_old_name") sp := by
  obtain ⟨fd, F⟩ := k.c.d 2
  have S : FnScope ["value"] ["value"] (defScope (topOf PG 16)) := ⟨rfl, rfl, rfl, by decide +kernel, rfl, by decide +kernel, by decide +kernel⟩
  exact FnOk.pos (fn_body F S hl fun cdv A outer s H E hr => ⟨T_is_old_name K s_is_integer, (ds_one (dst_ret (de_and (de_call gh_is_integer k.g_is_integer hr (da_cons (dv 0) da_nil)) (de_one (de_cmp od_ge (dv 0) de_int))))), hp⟩)
    (F.bindsN fun _ _ _ _ _ _ us hl => match us, hl with | [_], _ => rfl)

theorem wk_are_old_names {w : World} {K : PySem.W.Frag} {mg : Str → Option Value} {base h : Heap} (k : Kn K mg base h) {sp s_is_old_name : DRs} (gh_is_old_name : GD PG w K mg base 2 (ga K "is_old_name") s_is_old_name) (hl : ∀ ds m R, sp ds m R → ds.length = 1) (hp : ∀ ds m R, sp ds m R → T_are_old_names K s_is_old_name (endsD m R) (startD ["value", "one"] ds) m) :
    FnD PG w K mg base 3 (ga K "are_old_names") sp := by
  obtain ⟨fd, F⟩ := k.c.d 3
  have S : FnScope ["value", "one"] ["value"] (defScope (topOf PG 17)) := ⟨rfl, rfl, rfl, by decide +kernel, rfl, by decide +kernel, by decide +kernel⟩
  exact FnOk.pos (fn_body F S hl fun cdv A outer s H E hr => ⟨T_are_old_names K s_is_old_name, (ds_one (dst_ret (de_and (de_callB (cd_isi (U := "tuple")) k.f_isinstance b_isinstance (da_cons (dv 0) (da_cons (de_gty k.f_tuple b_tuple) da_nil))) (de_and (de_callB (cd_all rfl) k.f_all b_all (da_cons (de_lc (own := [("one", 1)]) rfl S.nd (di_seq (dv 0)) ⟨rfl, of_decide_eq_true (by kernel_rfl), of_decide_eq_true (by kernel_rfl), of_decide_eq_true (by kernel_rfl), of_decide_eq_true (by kernel_rfl)⟩ (dgc_name 1 (by decide) fun _ _ _ _ _ => pg_name (i := 1) S.nd rfl (.inl rfl)) (fun _ _ _ _ _ => dts_nil) (fun _ _ _ _ _ => (de_call gh_is_old_name k.g_is_old_name hr (da_cons (dv 1) da_nil)))) da_nil)) (de_one (de_cmp (od_eq hr.units) (de_callTy cd_list k.f_list b_list (da_cons (dv 0) da_nil)) (de_sortSet k.f_sorted k.f_set (dv 0)))))))), hp⟩)
    (F.bindsN fun _ _ _ _ _ _ us hl => match us, hl with | [_], _ => rfl)

theorem wk_are_threads {w : World} {K : PySem.W.Frag} {mg : Str → Option Value} {base h : Heap} (k : Kn K mg base h) {sp s_are_old_names : DRs} (gh_are_old_names : GD PG w K mg base 3 (ga K "are_old_names") s_are_old_names) (hl : ∀ ds m R, sp ds m R → ds.length = 1) (hp : ∀ ds m R, sp ds m R → T_are_threads K s_are_old_names (endsD m R) (startD ["value"] ds) m) :
    FnD PG w K mg base 4 (ga K "are_threads") sp := by
  obtain ⟨fd, F⟩ := k.c.d 4
  have S : FnScope ["value"] ["value"] (defScope (topOf PG 18)) := ⟨rfl, rfl, rfl, by decide +kernel, rfl, by decide +kernel, by decide +kernel⟩
  exact FnOk.pos (fn_body F S hl fun cdv A outer s H E hr => ⟨T_are_threads K s_are_old_names, (ds_one (dst_ret (de_and (de_call gh_are_old_names k.g_are_old_names hr (da_cons (dv 0) da_nil)) (de_one (de_chain od_le od_le de_int (de_callB cd_len k.f_len b_len (da_cons (dv 0) da_nil)) (de_gint k.i_MAX_THREADS)))))), hp⟩)
    (F.bindsN fun _ _ _ _ _ _ us hl => match us, hl with | [_], _ => rfl)

theorem wk_require_threads {w : World} {K : PySem.W.Frag} {mg : Str → Option Value} {base h : Heap} (k : Kn K mg base h) {sp s_are_threads : DRs} (gh_are_threads : GD PG w K mg base 4 (ga K "are_threads") s_are_threads) (hl : ∀ ds m R, sp ds m R → ds.length = 1) (hp : ∀ ds m R, sp ds m R → T_require_threads K s_are_threads (endsD m R) (startD ["value"] ds) m) :
    FnD PG w K mg base 5 (ga K "require_threads") sp := by
  obtain ⟨fd, F⟩ := k.c.d 5
  have S : FnScope ["value"] ["value"] (defScope (topOf PG 19)) := ⟨rfl, rfl, rfl, by decide +kernel, rfl, by decide +kernel, by decide +kernel⟩
  exact FnOk.pos (fn_body F S hl fun cdv A outer s H E hr => ⟨T_require_threads K s_are_threads, (ds_one (dst_if (dt_not (dt_val (de_call gh_are_threads k.g_are_threads hr (da_cons (dv 0) da_nil)))) ds_never ds_nil)), hp⟩)
    (F.bindsN fun _ _ _ _ _ _ us hl => match us, hl with | [_], _ => rfl)

theorem wk_are_blocks {w : World} {K : PySem.W.Frag} {mg : Str → Option Value} {base h : Heap} (k : Kn K mg base h) {sp s_are_threads : DRs} (gh_are_threads : GD PG w K mg base 4 (ga K "are_threads") s_are_threads) (hl : ∀ ds m R, sp ds m R → ds.length = 1) (hp : ∀ ds m R, sp ds m R → T_are_blocks K s_are_threads (endsD m R) (startD ["value", "found", "block", "thread"] ds) m) :
    FnD PG w K mg base 5 (ga K "are_blocks") sp := by
  obtain ⟨fd, F⟩ := k.c.d 6
  have S : FnScope ["value", "found", "block", "thread"] ["value"] (defScope (topOf PG 20)) := ⟨rfl, rfl, rfl, by decide +kernel, rfl, by decide +kernel, by decide +kernel⟩
  exact FnOk.pos (fn_body F S hl fun cdv A outer s H E hr => ⟨T_are_blocks K s_are_threads, (ds_cons (dst_if (DW.dt (dw_or (dt_not (dt_val (de_callB (cd_isi (U := "tuple")) k.f_isinstance b_isinstance (da_cons (dv 0) (da_cons (de_gty k.f_tuple b_tuple) da_nil))))) (dw_or1 (dt_not (dt_val (de_callB (cd_all rfl) k.f_all b_all (da_cons (de_lc (own := [("block", 2)]) rfl S.nd (di_seq (dv 0)) ⟨rfl, of_decide_eq_true (by kernel_rfl), of_decide_eq_true (by kernel_rfl), of_decide_eq_true (by kernel_rfl), of_decide_eq_true (by kernel_rfl)⟩ (dgc_name 2 (by decide) fun _ _ _ _ _ => pg_name (i := 2) S.nd rfl (.inl rfl)) (fun _ _ _ _ _ => dts_nil) (fun _ _ _ _ _ => (de_call gh_are_threads k.g_are_threads hr (da_cons (dv 2) da_nil)))) da_nil))))))) (ds_one (dst_ret de_bl)) ds_nil)
    (ds_cons (dst_setLc2 1 (own := [("block", 2), ("thread", 3)]) (vs1 := [3]) rfl S.nd (di_seq (dv 0)) ⟨rfl, of_decide_eq_true (by kernel_rfl), of_decide_eq_true (by kernel_rfl), of_decide_eq_true (by kernel_rfl), of_decide_eq_true (by kernel_rfl)⟩ (by decide) (dgc_name 2 (by decide) fun _ _ _ _ _ => pg_name (i := 2) S.nd rfl (.inl rfl)) (fun _ _ _ _ _ => dts_nil) (fun _ _ _ _ _ => (di_seq (dv 2))) (dgc_name 3 (by decide) fun _ _ _ _ _ => pg_name (i := 3) S.nd rfl (.inl rfl)) (fun _ _ _ _ _ => dts_nil) (fun _ _ _ _ _ => (dv 3)) rfl)
    (ds_one (dst_ret (de_and (de_chain od_le od_le de_int (de_callB cd_len k.f_len b_len (da_cons (dv 1) da_nil)) (de_gint k.i_MAX_THREADS)) (de_one (de_cmp (od_eq hr.units) (de_lenSet k.f_len k.f_set (dv 1)) (de_callB cd_len k.f_len b_len (da_cons (dv 1) da_nil))))))))), hp⟩)
    (F.bindsN fun _ _ _ _ _ _ us hl => match us, hl with | [_], _ => rfl)

theorem wk_Round___init__ {w : World} {K : PySem.W.Frag} {mg : Str → Option Value} {base h : Heap} (k : Kn K mg base h) {sp s_are_blocks : DRs} (gh_are_blocks : GD PG w K mg base 5 (ga K "are_blocks") s_are_blocks) (hl : ∀ ds m R, sp ds m R → ds.length = 2) (hp : ∀ ds m R, sp ds m R → T_Round___init__ K s_are_blocks (endsD m R) (startD ["self", "blocks", "block", "thread"] ds) m) :
    FnD PG w K mg base 6 (ma K (ga K "Round") "__init__") sp := by
  obtain ⟨fd, F⟩ := k.c.d 38
  have S : FnScope ["self", "blocks", "block", "thread"] ["self", "blocks"] (defScope (mthOf PG 21 1)) := ⟨rfl, rfl, rfl, by decide +kernel, rfl, by decide +kernel, by decide +kernel⟩
  exact FnOk.pos (fn_body F S hl fun cdv A outer s H E hr => ⟨T_Round___init__ K s_are_blocks, (ds_cons (dst_if (dt_not (dt_val (de_call gh_are_blocks k.g_are_blocks hr (da_cons (dv 1) da_nil)))) ds_never ds_nil)
    (ds_cons (dst_slot k.a_Round_own_blocks (dv 0) (dv 1))
    (ds_cons (dst_slot k.a_Round_own_threads (dv 0) (de_callTy cd_tuple k.f_tuple b_tuple (da_cons (de_callB cd_sortI k.f_sorted b_sorted (da_cons (de_lc2 (own := [("block", 2), ("thread", 3)]) (vs1 := [3]) rfl S.nd (di_seq (dv 1)) ⟨rfl, of_decide_eq_true (by kernel_rfl), of_decide_eq_true (by kernel_rfl), of_decide_eq_true (by kernel_rfl), of_decide_eq_true (by kernel_rfl)⟩ (by decide) (dgc_name 2 (by decide) fun _ _ _ _ _ => pg_name (i := 2) S.nd rfl (.inl rfl)) (fun _ _ _ _ _ => dts_nil) (fun _ _ _ _ _ => (di_seq (dv 2))) (dgc_name 3 (by decide) fun _ _ _ _ _ => pg_name (i := 3) S.nd rfl (.inl rfl)) (fun _ _ _ _ _ => dts_nil) (fun _ _ _ _ _ => (dv 3))) da_nil)) da_nil)))
    (ds_cons (dst_slot k.a_Round_own_sign (dv 0) (de_if (dt_cmp (od_eq hr.units) (de_op od_mod (de_op od_sub (de_callB cd_len k.f_len b_len (da_cons (de_slot k.a_Round_own_threads (dv 0)) da_nil)) (de_callB cd_len k.f_len b_len (da_cons (dv 1) da_nil))) de_int) de_int) de_int (de_un ud_neg de_int)))
    (ds_one (dst_slot k.a_Round_own_size (dv 0) (de_callB cd_len k.f_len b_len (da_cons (dv 1) da_nil)))))))), hp⟩)
    (F.bindsN fun _ _ _ _ _ _ us hl => match us, hl with | [_, _], _ => rfl)

theorem wk_Round___eq__ {w : World} {K : PySem.W.Frag} {mg : Str → Option Value} {base h : Heap} (k : Kn K mg base h) {sp : DRs}  (hl : ∀ ds m R, sp ds m R → ds.length = 2) (hp : ∀ ds m R, sp ds m R → T_Round___eq__ K (endsD m R) (startD ["self", "other"] ds) m) :
    FnD PG w K mg base 1 (ma K (ga K "Round") "__eq__") sp := by
  obtain ⟨fd, F⟩ := k.c.d 39
  have S : FnScope ["self", "other"] ["self", "other"] (defScope (mthOf PG 21 14)) := ⟨rfl, rfl, rfl, by decide +kernel, rfl, by decide +kernel, by decide +kernel⟩
  exact FnOk.pos (fn_body F S hl fun cdv A outer s H E hr => ⟨T_Round___eq__ K, (ds_one (dst_ret (de_and (de_callB (cd_isiO k.k_Round_Round) k.f_isinstance b_isinstance (da_cons (dv 1) (da_cons (de_gref k.g_Round) da_nil))) (de_one (de_cmp (od_eq hr.units) (de_slot k.a_Round_own_blocks (dv 0)) (de_slot k.a_Round_own_blocks (dv 1))))))), hp⟩)
    (F.bindsN fun _ _ _ _ _ _ us hl => match us, hl with | [_, _], _ => rfl)

theorem wk_Round___str__ {w : World} {K : PySem.W.Frag} {mg : Str → Option Value} {base h : Heap} (k : Kn K mg base h) {sp : DRs}  (hl : ∀ ds m R, sp ds m R → ds.length = 1) (hp : ∀ ds m R, sp ds m R → T_Round___str__ K (endsD m R) (startD ["self", "one", "block"] ds) m) :
    FnD PG w K mg base 1 (ma K (ga K "Round") "__str__") sp := by
  obtain ⟨fd, F⟩ := k.c.d 40
  have S : FnScope ["self", "one", "block"] ["self"] (defScope (mthOf PG 21 15)) := ⟨rfl, rfl, rfl, by decide +kernel, rfl, by decide +kernel, by decide +kernel⟩
  exact FnOk.pos (fn_body F S hl fun cdv A outer s H E hr => ⟨T_Round___str__ K, (ds_one (dst_ret (de_bm md_join de_str (da_cons (de_lc (own := [("block", 2)]) rfl S.nd (di_seq (de_slot k.a_Round_own_blocks (dv 0))) ⟨rfl, of_decide_eq_true (by kernel_rfl), of_decide_eq_true (by kernel_rfl), of_decide_eq_true (by kernel_rfl), of_decide_eq_true (by kernel_rfl)⟩ (dgc_name 2 (by decide) fun _ _ _ _ _ => pg_name (i := 2) S.nd rfl (.inl rfl)) (fun _ _ _ _ _ => dts_nil) (fun _ _ _ _ _ => (de_bm md_join de_str (da_cons (de_lc (own := [("one", 1)]) rfl S.nd (di_seq (dv 2)) ⟨rfl, of_decide_eq_true (by kernel_rfl), of_decide_eq_true (by kernel_rfl), of_decide_eq_true (by kernel_rfl), of_decide_eq_true (by kernel_rfl)⟩ (dgc_name 1 (by decide) fun _ _ _ _ _ => pg_name (i := 1) S.nd rfl (.inl rfl)) (fun _ _ _ _ _ => dts_nil) (fun _ _ _ _ _ => (de_callTy cd_strI k.f_str b_str (da_cons (dv 1) da_nil)))) da_nil) PySem.F.plainAttrs_str PySem.F.slot_str_join rfl))) da_nil) PySem.F.plainAttrs_str PySem.F.slot_str_join rfl))), hp⟩)
    (F.bindsN fun _ _ _ _ _ _ us hl => match us, hl with | [_], _ => rfl)

theorem wk_place_of {w : World} {K : PySem.W.Frag} {mg : Str → Option Value} {base h : Heap} (k : Kn K mg base h) {sp : DRs}  (hl : ∀ ds m R, sp ds m R → ds.length = 2) (hp : ∀ ds m R, sp ds m R → T_place_of K (endsD m R) (startD ["round_of", "thread"] ds) m) :
    FnD PG w K mg base 1 (ga K "place_of") sp := by
  obtain ⟨fd, F⟩ := k.c.d 7
  have S : FnScope ["round_of", "thread"] ["round_of", "thread"] (defScope (topOf PG 23)) := ⟨rfl, rfl, rfl, by decide +kernel, rfl, by decide +kernel, by decide +kernel⟩
  have TB := k.tb ("place_of", none) (by decide)
  have hco := codeAt F
  exact FnOk.pos (fn_bodyC F S hco hl fun A outer s H E hr => ⟨T_place_of K, (ds_one (dst_ret (de_nextIn 1 hr k.f_next TB rfl ⟨rfl, rfl, by decide +kernel, rfl, rfl, rfl, by decide, fun y hy hf => cell_has ((by decide +kernel : ∀ y ∈ _, y.2 = NameKind.free → (defScope (topOf PG 23)).names.lookup y.1 = some .cell) y hy hf)⟩ k.f_enumerate (de_slot k.a_Round_own_blocks (dv 0)) rfl (fun _ => rfl) rfl))), hp⟩)
    (F.bindsN fun _ _ _ _ _ _ us hl => match us, hl with | [_, _], _ => rfl)

theorem wk_seen_by {w : World} {K : PySem.W.Frag} {mg : Str → Option Value} {base h : Heap} (k : Kn K mg base h) {sp s_place_of : DRs} (gh_place_of : GD PG w K mg base 1 (ga K "place_of") s_place_of) (hl : ∀ ds m R, sp ds m R → ds.length = 2) (hp : ∀ ds m R, sp ds m R → T_seen_by K s_place_of (endsD m R) (startD ["round_of", "thread", "place", "block", "one"] ds) m) :
    FnD PG w K mg base 2 (ga K "seen_by") sp := by
  obtain ⟨fd, F⟩ := k.c.d 8
  have S : FnScope ["round_of", "thread", "place", "block", "one"] ["round_of", "thread"] (defScope (topOf PG 24)) := ⟨rfl, rfl, rfl, by decide +kernel, rfl, by decide +kernel, by decide +kernel⟩
  exact FnOk.pos (fn_body F S hl fun cdv A outer s H E hr => ⟨T_seen_by K s_place_of, (ds_cons (dst_set 2 S.nd (de_call gh_place_of k.g_place_of hr (da_cons (dv 0) (da_cons (dv 1) da_nil))))
    (ds_one (dst_ret (de_callTy cd_tuple k.f_tuple b_tuple (da_cons (de_callB cd_sortI k.f_sorted b_sorted (da_cons (de_lc2 (own := [("block", 3), ("one", 4)]) (vs1 := [4]) rfl S.nd (di_seq (de_slice (de_slot k.a_Round_own_blocks (dv 0)) do_none (do_some (de_op od_add (dv 2) de_int)))) ⟨rfl, of_decide_eq_true (by kernel_rfl), of_decide_eq_true (by kernel_rfl), of_decide_eq_true (by kernel_rfl), of_decide_eq_true (by kernel_rfl)⟩ (by decide) (dgc_name 3 (by decide) fun _ _ _ _ _ => pg_name (i := 3) S.nd rfl (.inl rfl)) (fun _ _ _ _ _ => dts_nil) (fun _ _ _ _ _ => (di_seq (dv 3))) (dgc_name 4 (by decide) fun _ _ _ _ _ => pg_name (i := 4) S.nd rfl (.inl rfl)) (fun _ _ _ _ _ => dts_nil) (fun _ _ _ _ _ => (dv 4))) da_nil)) da_nil))))), hp⟩)
    (F.bindsN fun _ _ _ _ _ _ us hl => match us, hl with | [_, _], _ => rfl)

theorem wk_are_rounds {w : World} {K : PySem.W.Frag} {mg : Str → Option Value} {base h : Heap} (k : Kn K mg base h) {sp : DRs}  (hl : ∀ ds m R, sp ds m R → ds.length = 2) (hp : ∀ ds m R, sp ds m R → T_are_rounds K (endsD m R) (startD ["threads", "value", "one"] ds) m) :
    FnD PG w K mg base 1 (ga K "are_rounds") sp := by
  obtain ⟨fd, F⟩ := k.c.d 9
  have S : FnScope ["threads", "value", "one"] ["threads", "value"] (defScope (topOf PG 27)) := ⟨rfl, rfl, rfl, by decide +kernel, rfl, by decide +kernel, by decide +kernel⟩
  exact FnOk.pos (fn_body F S hl fun cdv A outer s H E hr => ⟨T_are_rounds K, (ds_cons (dst_if (DW.dt (dw_or (dt_not (dt_val (de_callB (cd_isi (U := "tuple")) k.f_isinstance b_isinstance (da_cons (dv 1) (da_cons (de_gty k.f_tuple b_tuple) da_nil))))) (dw_or1 (dt_cmp od_gt (de_callB cd_len k.f_len b_len (da_cons (dv 1) da_nil)) (de_gint k.i_MAX_ROUNDS))))) (ds_one (dst_ret de_bl)) ds_nil)
    (ds_one (dst_ret (de_callB (cd_all rfl) k.f_all b_all (da_cons (de_lc (own := [("one", 2)]) rfl S.nd (di_seq (dv 1)) ⟨rfl, of_decide_eq_true (by kernel_rfl), of_decide_eq_true (by kernel_rfl), of_decide_eq_true (by kernel_rfl), of_decide_eq_true (by kernel_rfl)⟩ (dgc_name 2 (by decide) fun _ _ _ _ _ => pg_name (i := 2) S.nd rfl (.inl rfl)) (fun _ _ _ _ _ => dts_nil) (fun _ _ _ _ _ => (de_and (de_callB (cd_isiO k.k_Round_Round) k.f_isinstance b_isinstance (da_cons (dv 2) (da_cons (de_gref k.g_Round) da_nil))) (de_one (de_cmp (od_eq hr.units) (de_slot k.a_Round_own_threads (dv 2)) (dv 0)))))) da_nil))))), hp⟩)
    (F.bindsN fun _ _ _ _ _ _ us hl => match us, hl with | [_, _], _ => rfl)

end W82
set_option Elab.async false
set_option linter.all false
set_option maxRecDepth 100000
set_option maxHeartbeats 4000000
namespace W82
open PySem PySem.Spec PyProof.Rows L2 SlX DL FN
theorem wk_Run___init__ {w : World} {K : PySem.W.Frag} {mg : Str → Option Value} {base h : Heap} (k : Kn K mg base h) {sp s_require_threads s_are_rounds : DRs} (gh_require_threads : GD PG w K mg base 5 (ga K "require_threads") s_require_threads) (gh_are_rounds : GD PG w K mg base 1 (ga K "are_rounds") s_are_rounds) (hl : ∀ ds m R, sp ds m R → ds.length = 3) (hp : ∀ ds m R, sp ds m R → T_Run___init__ K s_require_threads s_are_rounds (endsD m R) (startD ["self", "threads", "rounds", "one"] ds) m) :
    FnD PG w K mg base 6 (ma K (ga K "Run") "__init__") sp := by
  obtain ⟨fd, F⟩ := k.c.d 41
  have S : FnScope ["self", "threads", "rounds", "one"] ["self", "threads", "rounds"] (defScope (mthOf PG 28 1)) := ⟨rfl, rfl, rfl, by decide +kernel, rfl, by decide +kernel, by decide +kernel⟩
  exact FnOk.pos (fn_body F S hl fun cdv A outer s H E hr => ⟨T_Run___init__ K s_require_threads s_are_rounds, (ds_cons (dst_expr (de_call gh_require_threads k.g_require_threads hr (da_cons (dv 1) da_nil)))
    (ds_cons (dst_if (dt_not (dt_val (de_call gh_are_rounds k.g_are_rounds hr (da_cons (dv 1) (da_cons (dv 2) da_nil))))) ds_never ds_nil)
    (ds_cons (dst_slot k.a_Run_own_threads (dv 0) (dv 1))
    (ds_cons (dst_slot k.a_Run_own_rounds (dv 0) (dv 2))
    (ds_cons (dst_slot k.a_Run_own_sign (dv 0) de_int)
    (ds_one (dst_for .never rfl (di_seq (dv 2)) (dg_name 3 S.nd) (ds_one (dst_augSlot k.a_Run_own_sign (dv 0) (de_slot k.a_Round_own_sign (dv 3)) id_mul))))))))), hp⟩)
    (F.bindsN fun _ _ _ _ _ _ us hl => match us, hl with | [_, _, _], _ => rfl)

theorem wk_Run___getitem__ {w : World} {K : PySem.W.Frag} {mg : Str → Option Value} {base h : Heap} (k : Kn K mg base h) {sp s_is_between : DRs} (gh_is_between : GD PG w K mg base 2 (ga K "is_between") s_is_between) (hl : ∀ ds m R, sp ds m R → ds.length = 2) (hp : ∀ ds m R, sp ds m R → T_Run___getitem__ K s_is_between (endsD m R) (startD ["self", "index"] ds) m) :
    FnD PG w K mg base 3 (ma K (ga K "Run") "__getitem__") sp := by
  obtain ⟨fd, F⟩ := k.c.d 42
  have S : FnScope ["self", "index"] ["self", "index"] (defScope (mthOf PG 28 11)) := ⟨rfl, rfl, rfl, by decide +kernel, rfl, by decide +kernel, by decide +kernel⟩
  exact FnOk.pos (fn_body F S hl fun cdv A outer s H E hr => ⟨T_Run___getitem__ K s_is_between, (ds_cons (dst_if (dt_not (dt_val (de_call gh_is_between k.g_is_between hr (da_cons (dv 1) (da_cons de_int (da_cons (de_op od_sub (de_callB cd_len k.f_len b_len (da_cons (de_slot k.a_Run_own_rounds (dv 0)) da_nil)) de_int) da_nil)))))) ds_never ds_nil)
    (ds_one (dst_ret (de_ix (de_slot k.a_Run_own_rounds (dv 0)) (dv 1))))), hp⟩)
    (F.bindsN fun _ _ _ _ _ _ us hl => match us, hl with | [_, _], _ => rfl)

theorem wk_Run___len__ {w : World} {K : PySem.W.Frag} {mg : Str → Option Value} {base h : Heap} (k : Kn K mg base h) {sp : DRs}  (hl : ∀ ds m R, sp ds m R → ds.length = 1) (hp : ∀ ds m R, sp ds m R → T_Run___len__ K (endsD m R) (startD ["self"] ds) m) :
    FnD PG w K mg base 1 (ma K (ga K "Run") "__len__") sp := by
  obtain ⟨fd, F⟩ := k.c.d 43
  have S : FnScope ["self"] ["self"] (defScope (mthOf PG 28 13)) := ⟨rfl, rfl, rfl, by decide +kernel, rfl, by decide +kernel, by decide +kernel⟩
  exact FnOk.pos (fn_body F S hl fun cdv A outer s H E hr => ⟨T_Run___len__ K, (ds_one (dst_ret (de_callB cd_len k.f_len b_len (da_cons (de_slot k.a_Run_own_rounds (dv 0)) da_nil)))), hp⟩)
    (F.bindsN fun _ _ _ _ _ _ us hl => match us, hl with | [_], _ => rfl)

theorem wk_Run___eq__ {w : World} {K : PySem.W.Frag} {mg : Str → Option Value} {base h : Heap} (k : Kn K mg base h) {sp : DRs} {LR : Addr → List D → Prop} (h_rr : ∀ C xs, LR C xs → ∃ g spec, EqK K C g ∧ FnD PG w K mg base 1 g spec ∧ spec [.obj C xs, .obj C xs] [] fun z _ => z = .bl true) (hl : ∀ ds m R, sp ds m R → ds.length = 2) (hp : ∀ ds m R, sp ds m R → T_Run___eq__ K LR (endsD m R) (startD ["self", "other"] ds) m) :
    FnD PG w K mg base 3 (ma K (ga K "Run") "__eq__") sp := by
  obtain ⟨fd, F⟩ := k.c.d 44
  have S : FnScope ["self", "other"] ["self", "other"] (defScope (mthOf PG 28 14)) := ⟨rfl, rfl, rfl, by decide +kernel, rfl, by decide +kernel, by decide +kernel⟩
  exact FnOk.pos (fn_body F S hl fun cdv A outer s H E hr => ⟨T_Run___eq__ K LR, (ds_one (dst_ret (de_and (de_callB (cd_isiO k.k_Run_Run) k.f_isinstance b_isinstance (da_cons (dv 1) (da_cons (de_gref k.g_Run) da_nil))) (de_and (de_cmp (od_eq hr.units) (de_slot k.a_Run_own_threads (dv 0)) (de_slot k.a_Run_own_threads (dv 1))) (de_one (de_cmp (od_eqTup (h_rr) hr) (de_slot k.a_Run_own_rounds (dv 0)) (de_slot k.a_Run_own_rounds (dv 1)))))))), hp⟩)
    (F.bindsN fun _ _ _ _ _ _ us hl => match us, hl with | [_, _], _ => rfl)

theorem wk_require_run {w : World} {K : PySem.W.Frag} {mg : Str → Option Value} {base h : Heap} (k : Kn K mg base h) {sp : DRs}  (hl : ∀ ds m R, sp ds m R → ds.length = 1) (hp : ∀ ds m R, sp ds m R → T_require_run K (endsD m R) (startD ["value"] ds) m) :
    FnD PG w K mg base 1 (ga K "require_run") sp := by
  obtain ⟨fd, F⟩ := k.c.d 10
  have S : FnScope ["value"] ["value"] (defScope (topOf PG 29)) := ⟨rfl, rfl, rfl, by decide +kernel, rfl, by decide +kernel, by decide +kernel⟩
  exact FnOk.pos (fn_body F S hl fun cdv A outer s H E hr => ⟨T_require_run K, (ds_one (dst_if (dt_not (dt_val (de_callB (cd_isiO k.k_Run_Run) k.f_isinstance b_isinstance (da_cons (dv 0) (da_cons (de_gref k.g_Run) da_nil))))) ds_never ds_nil)), hp⟩)
    (F.bindsN fun _ _ _ _ _ _ us hl => match us, hl with | [_], _ => rfl)

theorem wk_Seat___init__ {w : World} {K : PySem.W.Frag} {mg : Str → Option Value} {base h : Heap} (k : Kn K mg base h) {sp : DRs}  (hl : ∀ ds m R, sp ds m R → ds.length = 4) (hp : ∀ ds m R, sp ds m R → T_Seat___init__ K (endsD m R) (startD ["self", "first", "direction", "past"] ds) m) :
    FnD PG w K mg base 1 (ma K (ga K "Seat") "__init__") sp := by
  obtain ⟨fd, F⟩ := k.c.d 45
  have S : FnScope ["self", "first", "direction", "past"] ["self", "first", "direction", "past"] (defScope (mthOf PG 35 1)) := ⟨rfl, rfl, rfl, by decide +kernel, rfl, by decide +kernel, by decide +kernel⟩
  exact FnOk.pos (fn_body F S hl fun cdv A outer s H E hr => ⟨T_Seat___init__ K, (ds_cons (dst_slot k.a_Seat_own_first (dv 0) (dv 1))
    (ds_cons (dst_slot k.a_Seat_own_direction (dv 0) (dv 2))
    (ds_one (dst_slot k.a_Seat_own_past (dv 0) (dv 3))))), hp⟩)
    (F.bindsN fun _ _ _ _ _ _ us hl => match us, hl with | [_, _, _, _], _ => rfl)

theorem wk_Seat_greatest_name {w : World} {K : PySem.W.Frag} {mg : Str → Option Value} {base h : Heap} (k : Kn K mg base h) {sp : DRs}  (hl : ∀ ds m R, sp ds m R → ds.length = 2) (hp : ∀ ds m R, sp ds m R → T_Seat_greatest_name K (endsD m R) (startD ["self", "many"] ds) m) :
    FnD PG w K mg base 1 (ma K (ga K "Seat") "greatest_name") sp := by
  obtain ⟨fd, F⟩ := k.c.d 46
  have S : FnScope ["self", "many"] ["self", "many"] (defScope (mthOf PG 35 2)) := ⟨rfl, rfl, rfl, by decide +kernel, rfl, by decide +kernel, by decide +kernel⟩
  exact FnOk.pos (fn_body F S hl fun cdv A outer s H E hr => ⟨T_Seat_greatest_name K, (ds_one (dst_ret (de_op od_add (de_slot k.a_Seat_own_first (dv 0)) (de_op od_mulI (de_slot k.a_Seat_own_direction (dv 0)) (de_op od_sub (de_op od_mulI de_int (dv 1)) de_int))))), hp⟩)
    (F.bindsN fun _ _ _ _ _ _ us hl => match us, hl with | [_, _], _ => rfl)

theorem wk_Seat_next_seat {w : World} {K : PySem.W.Frag} {mg : Str → Option Value} {base h : Heap} (k : Kn K mg base h) {sp m_Seat : DRs} (g_Seat : GD PG w K mg base 2 (ga K "Seat") m_Seat) (hl : ∀ ds m R, sp ds m R → ds.length = 2) (hp : ∀ ds m R, sp ds m R → T_Seat_next_seat K m_Seat (endsD m R) (startD ["self", "many"] ds) m) :
    FnD PG w K mg base 3 (ma K (ga K "Seat") "next_seat") sp := by
  obtain ⟨fd, F⟩ := k.c.d 47
  have S : FnScope ["self", "many"] ["self", "many"] (defScope (mthOf PG 35 3)) := ⟨rfl, rfl, rfl, by decide +kernel, rfl, by decide +kernel, by decide +kernel⟩
  exact FnOk.pos (fn_body F S hl fun cdv A outer s H E hr => ⟨T_Seat_next_seat K m_Seat, (ds_one (dst_ret (de_call g_Seat k.g_Seat hr (da_cons (de_op od_add (de_slot k.a_Seat_own_first (dv 0)) (de_op od_mulI (de_slot k.a_Seat_own_direction (dv 0)) (de_op od_sub (de_op od_mulI de_int (dv 1)) de_int))) (da_cons (de_un ud_neg (de_slot k.a_Seat_own_direction (dv 0))) (da_cons (de_tup (da_star (de_slot k.a_Seat_own_past (dv 0)) (da_cons (dv 1) da_nil))) da_nil)))))), hp⟩)
    (F.bindsN fun _ _ _ _ _ _ us hl => match us, hl with | [_, _], _ => rfl)

theorem wk_first_seats {w : World} {K : PySem.W.Frag} {mg : Str → Option Value} {base h : Heap} (k : Kn K mg base h) {sp m_Seat : DRs} (g_Seat : GD PG w K mg base 2 (ga K "Seat") m_Seat) (hl : ∀ ds m R, sp ds m R → ds.length = 1) (hp : ∀ ds m R, sp ds m R → T_first_seats K m_Seat (endsD m R) (startD ["threads", "thread"] ds) m) :
    FnD PG w K mg base 3 (ga K "first_seats") sp := by
  obtain ⟨fd, F⟩ := k.c.d 11
  have S : FnScope ["threads", "thread"] ["threads"] (defScope (topOf PG 36)) := ⟨rfl, rfl, rfl, by decide +kernel, rfl, by decide +kernel, by decide +kernel⟩
  exact FnOk.pos (fn_body F S hl fun cdv A outer s H E hr => ⟨T_first_seats K m_Seat, (ds_one (dst_ret (de_dc (own := [("thread", 1)]) rfl S.nd (di_seq (dv 0)) ⟨rfl, of_decide_eq_true (by kernel_rfl), of_decide_eq_true (by kernel_rfl), of_decide_eq_true (by kernel_rfl), of_decide_eq_true (by kernel_rfl)⟩ (dgc_name 1 (by decide) fun _ _ _ _ _ => pg_name (i := 1) S.nd rfl (.inl rfl)) (fun _ _ _ _ _ => dts_nil) (fun _ _ _ _ _ => (dv 1)) (fun _ _ _ _ _ => (de_call g_Seat k.g_Seat hr (da_cons (de_gint k.i_FIRST) (da_cons (de_gint k.i_UPWARDS) (da_cons (de_tup da_nil) da_nil)))))))), hp⟩)
    (F.bindsN fun _ _ _ _ _ _ us hl => match us, hl with | [_], _ => rfl)

theorem wk_seats_behind {w : World} {K : PySem.W.Frag} {mg : Str → Option Value} {base h : Heap} (k : Kn K mg base h) {sp s_seen_by s_Seat_greatest_name s_Seat_next_seat : DRs} (gh_seen_by : GD PG w K mg base 2 (ga K "seen_by") s_seen_by) (gh_Seat_greatest_name : GD PG w K mg base 1 (ma K (ga K "Seat") "greatest_name") s_Seat_greatest_name) (gh_Seat_next_seat : GD PG w K mg base 3 (ma K (ga K "Seat") "next_seat") s_Seat_next_seat) (hl : ∀ ds m R, sp ds m R → ds.length = 2) (hp : ∀ ds m R, sp ds m R → T_seats_behind K s_seen_by s_Seat_greatest_name s_Seat_next_seat (endsD m R) (startD ["seats", "extra", "later", "taken", "thread", "seat", "seen", "near", "one"] ds) m) :
    FnD PG w K mg base 4 (ga K "seats_behind") sp := by
  obtain ⟨fd, F⟩ := k.c.d 12
  have S : FnScope ["seats", "extra", "later", "taken", "thread", "seat", "seen", "near", "one"] ["seats", "extra"] (defScope (topOf PG 37)) := ⟨rfl, rfl, rfl, by decide +kernel, rfl, by decide +kernel, by decide +kernel⟩
  exact FnOk.pos (fn_body F S hl fun cdv A outer s H E hr => ⟨T_seats_behind K s_seen_by s_Seat_greatest_name s_Seat_next_seat, (ds_cons (dst_par 2 3 rfl S.nd (da_cons (de_callTy cd_dictOfM k.f_dict b_dict (da_cons (dv 0) da_nil)) (da_cons de_newDM da_nil)))
    (ds_cons (dst_for .never rfl (di_seq (de_slot k.a_Round_own_threads (dv 1))) (dg_name 4 S.nd) (ds_one (dst_if (dt_cmp (od_inDic (units1 hr)) (dv 4) (dv 0)) (ds_cons (dst_set 5 S.nd (de_dget (units1 hr) (dv 0) (dv 4)))
    (ds_cons (dst_setLc 6 (own := [("one", 8)]) rfl S.nd (di_seq (de_call gh_seen_by k.g_seen_by hr (da_cons (dv 1) (da_cons (dv 4) da_nil)))) ⟨rfl, of_decide_eq_true (by kernel_rfl), of_decide_eq_true (by kernel_rfl), of_decide_eq_true (by kernel_rfl), of_decide_eq_true (by kernel_rfl)⟩ (dgc_name 8 (by decide) fun _ _ _ _ _ => pg_name (i := 8) S.nd rfl (.inl rfl)) (fun _ _ _ _ _ => (dts_one (dt_cmp (od_inDic (units1 hr)) (dv 8) (dv 0)))) (fun _ _ _ _ _ => (dv 8)) rfl)
    (ds_cons (dst_setLc 7 (own := [("one", 8)]) rfl S.nd (di_seq (dv 6)) ⟨rfl, of_decide_eq_true (by kernel_rfl), of_decide_eq_true (by kernel_rfl), of_decide_eq_true (by kernel_rfl), of_decide_eq_true (by kernel_rfl)⟩ (dgc_name 8 (by decide) fun _ _ _ _ _ => pg_name (i := 8) S.nd rfl (.inl rfl)) (fun _ _ _ _ _ => (dts_one (dt_cmp (od_eq hr.units) (de_slot k.a_Seat_own_past (de_dget (units1 hr) (dv 0) (dv 8))) (de_slot k.a_Seat_own_past (dv 5))))) (fun _ _ _ _ _ => (dv 8)) rfl)
    (ds_one (dst_if (dt_cmp (od_eq hr.units) (dv 4) (de_ix (dv 7) (de_un ud_neg de_int))) (ds_cons (dst_dput (units1 hr) (dv 3) (dv 4) (de_methS k.c_Seat k.m_Seat_greatest_name gh_Seat_greatest_name hr (dv 5) (da_cons (de_callB cd_len k.f_len b_len (da_cons (dv 7) da_nil)) da_nil)))
    (ds_one (dst_expr (de_dpop (dv 2) (dv 4))))) (ds_one (dst_dput (units1 hr) (dv 2) (dv 4) (de_methS k.c_Seat k.m_Seat_next_seat gh_Seat_next_seat hr (dv 5) (da_cons (de_callB cd_len k.f_len b_len (da_cons (dv 7) da_nil)) da_nil))))))))) ds_nil)))
    (ds_one (dst_ret (de_tup (da_cons (dv 2) (da_cons (dv 3) da_nil))))))), hp⟩)
    (F.bindsN fun _ _ _ _ _ _ us hl => match us, hl with | [_, _], _ => rfl)

theorem wk_Standing___init__ {w : World} {K : PySem.W.Frag} {mg : Str → Option Value} {base h : Heap} (k : Kn K mg base h) {sp : DRs}  (hl : ∀ ds m R, sp ds m R → ds.length = 5) (hp : ∀ ds m R, sp ds m R → T_Standing___init__ K (endsD m R) (startD ["self", "running", "names", "seats", "run"] ds) m) :
    FnD PG w K mg base 1 (ma K (ga K "Standing") "__init__") sp := by
  obtain ⟨fd, F⟩ := k.c.d 48
  have S : FnScope ["self", "running", "names", "seats", "run"] ["self", "running", "names", "seats", "run"] (defScope (mthOf PG 39 1)) := ⟨rfl, rfl, rfl, by decide +kernel, rfl, by decide +kernel, by decide +kernel⟩
  exact FnOk.pos (fn_body F S hl fun cdv A outer s H E hr => ⟨T_Standing___init__ K, (ds_cons (dst_slot k.a_Standing_held_running (dv 0) (dv 1))
    (ds_cons (dst_slot k.a_Standing_held_names (dv 0) (dv 2))
    (ds_cons (dst_slot k.a_Standing_held_seats (dv 0) (dv 3))
    (ds_one (dst_slot k.a_Standing_held_run (dv 0) (dv 4)))))), hp⟩)
    (F.bindsN fun _ _ _ _ _ _ us hl => match us, hl with | [_, _, _, _, _], _ => rfl)

theorem wk_is_waiting {w : World} {K : PySem.W.Frag} {mg : Str → Option Value} {base h : Heap} (k : Kn K mg base h) {sp : DRs}  (hl : ∀ ds m R, sp ds m R → ds.length = 1) (hp : ∀ ds m R, sp ds m R → T_is_waiting K (endsD m R) (startD ["table", "thread"] ds) m) :
    FnD PG w K mg base 1 (ga K "is_waiting") sp := by
  obtain ⟨fd, F⟩ := k.c.d 13
  have S : FnScope ["table", "thread"] ["table"] (defScope (topOf PG 41)) := ⟨rfl, rfl, rfl, by decide +kernel, rfl, by decide +kernel, by decide +kernel⟩
  exact FnOk.pos (fn_body F S hl fun cdv A outer s H E hr => ⟨T_is_waiting K, (ds_one (dst_ret (de_callB (cd_any rfl) k.f_any b_any (da_cons (de_lc (own := [("thread", 1)]) rfl S.nd (di_seq (de_fld k.a_Table_own_running (dv 0))) ⟨rfl, of_decide_eq_true (by kernel_rfl), of_decide_eq_true (by kernel_rfl), of_decide_eq_true (by kernel_rfl), of_decide_eq_true (by kernel_rfl)⟩ (dgc_name 1 (by decide) fun _ _ _ _ _ => pg_name (i := 1) S.nd rfl (.inl rfl)) (fun _ _ _ _ _ => dts_nil) (fun _ _ _ _ _ => (de_cmp (od_notInDic (units1 hr)) (dv 1) (de_fld k.a_Table_own_names (dv 0))))) da_nil)))), hp⟩)
    (F.bindsN fun _ _ _ _ _ _ us hl => match us, hl with | [_], _ => rfl)

end W82
set_option Elab.async false
set_option linter.all false
set_option maxRecDepth 100000
set_option maxHeartbeats 4000000
namespace W82
open PySem PySem.Spec PyProof.Rows L2 SlX DL FN
theorem wk_Table___init__ {w : World} {K : PySem.W.Frag} {mg : Str → Option Value} {base h : Heap} (k : Kn K mg base h) {sp s_require_threads s_first_seats m_Run : DRs} (gh_require_threads : GD PG w K mg base 5 (ga K "require_threads") s_require_threads) (gh_first_seats : GD PG w K mg base 3 (ga K "first_seats") s_first_seats) (g_Run : GD PG w K mg base 7 (ga K "Run") m_Run) (hl : ∀ ds m R, sp ds m R → ds.length = 2) (hp : ∀ ds m R, sp ds m R → T_Table___init__ K s_require_threads s_first_seats m_Run (endsD m R) (startD ["self", "threads"] ds) m) :
    FnD PG w K mg base 8 (ma K (ga K "Table") "__init__") sp := by
  obtain ⟨fd, F⟩ := k.c.d 49
  have S : FnScope ["self", "threads"] ["self", "threads"] (defScope (mthOf PG 40 0)) := ⟨rfl, rfl, rfl, by decide +kernel, rfl, by decide +kernel, by decide +kernel⟩
  exact FnOk.pos (fn_body F S hl fun cdv A outer s H E hr => ⟨T_Table___init__ K s_require_threads s_first_seats m_Run, (ds_cons (dst_expr (de_call gh_require_threads k.g_require_threads hr (da_cons (dv 1) da_nil)))
    (ds_cons (dst_fld k.a_Table_own_threads (dv 0) (dv 1))
    (ds_cons (dst_fld k.a_Table_own_running (dv 0) (dv 1))
    (ds_cons (dst_fld k.a_Table_own_names (dv 0) de_newD)
    (ds_cons (dst_fld k.a_Table_own_seats (dv 0) (de_call gh_first_seats k.g_first_seats hr (da_cons (dv 1) da_nil)))
    (ds_cons (dst_fld k.a_Table_own_run (dv 0) (de_call g_Run k.g_Run hr (da_cons (dv 1) (da_cons (de_tup da_nil) da_nil))))
    (ds_one (dst_fld k.a_Table_own_past (dv 0) (de_lstM da_nil))))))))), hp⟩)
    (F.bindsN fun _ _ _ _ _ _ us hl => match us, hl with | [_, _], _ => rfl)

theorem wk_Table_threads {w : World} {K : PySem.W.Frag} {mg : Str → Option Value} {base h : Heap} (k : Kn K mg base h) {sp : DRs}  (hl : ∀ ds m R, sp ds m R → ds.length = 1) (hp : ∀ ds m R, sp ds m R → T_Table_threads K (endsD m R) (startD ["self"] ds) m) :
    FnD PG w K mg base 1 (prA K "Table" "threads") sp := by
  obtain ⟨fd, F⟩ := k.c.d 60
  have S : FnScope ["self"] ["self"] (defScope (mthOf PG 40 1)) := ⟨rfl, rfl, rfl, by decide +kernel, rfl, by decide +kernel, by decide +kernel⟩
  exact FnOk.pos (fn_body F S hl fun cdv A outer s H E hr => ⟨T_Table_threads K, (ds_one (dst_ret (de_fld k.a_Table_own_threads (dv 0)))), hp⟩)
    (F.bindsN fun _ _ _ _ _ _ us hl => match us, hl with | [_], _ => rfl)

theorem wk_Table_running {w : World} {K : PySem.W.Frag} {mg : Str → Option Value} {base h : Heap} (k : Kn K mg base h) {sp : DRs}  (hl : ∀ ds m R, sp ds m R → ds.length = 1) (hp : ∀ ds m R, sp ds m R → T_Table_running K (endsD m R) (startD ["self"] ds) m) :
    FnD PG w K mg base 1 (prA K "Table" "running") sp := by
  obtain ⟨fd, F⟩ := k.c.d 61
  have S : FnScope ["self"] ["self"] (defScope (mthOf PG 40 2)) := ⟨rfl, rfl, rfl, by decide +kernel, rfl, by decide +kernel, by decide +kernel⟩
  exact FnOk.pos (fn_body F S hl fun cdv A outer s H E hr => ⟨T_Table_running K, (ds_one (dst_ret (de_fld k.a_Table_own_running (dv 0)))), hp⟩)
    (F.bindsN fun _ _ _ _ _ _ us hl => match us, hl with | [_], _ => rfl)

theorem wk_Table_names {w : World} {K : PySem.W.Frag} {mg : Str → Option Value} {base h : Heap} (k : Kn K mg base h) {sp : DRs}  (hl : ∀ ds m R, sp ds m R → ds.length = 1) (hp : ∀ ds m R, sp ds m R → T_Table_names K (endsD m R) (startD ["self", "held", "thread"] ds) m) :
    FnD PG w K mg base 1 (prA K "Table" "names") sp := by
  obtain ⟨fd, F⟩ := k.c.d 62
  have S : FnScope ["self", "held", "thread"] ["self"] (defScope (mthOf PG 40 3)) := ⟨rfl, rfl, rfl, by decide +kernel, rfl, by decide +kernel, by decide +kernel⟩
  exact FnOk.pos (fn_body F S hl fun cdv A outer s H E hr => ⟨T_Table_names K, (ds_cons (dst_set 1 S.nd (de_fld k.a_Table_own_names (dv 0)))
    (ds_one (dst_ret (de_dc (own := [("thread", 2)]) rfl S.nd (di_seq (de_fld k.a_Table_own_threads (dv 0))) ⟨rfl, of_decide_eq_true (by kernel_rfl), of_decide_eq_true (by kernel_rfl), of_decide_eq_true (by kernel_rfl), of_decide_eq_true (by kernel_rfl)⟩ (dgc_name 2 (by decide) fun _ _ _ _ _ => pg_name (i := 2) S.nd rfl (.inl rfl)) (fun _ _ _ _ _ => dts_nil) (fun _ _ _ _ _ => (dv 2)) (fun _ _ _ _ _ => (de_dget2 (units1 hr) (dv 1) (dv 2) de_non)))))), hp⟩)
    (F.bindsN fun _ _ _ _ _ _ us hl => match us, hl with | [_], _ => rfl)

theorem wk_Table_places {w : World} {K : PySem.W.Frag} {mg : Str → Option Value} {base h : Heap} (k : Kn K mg base h) {sp : DRs}  (hl : ∀ ds m R, sp ds m R → ds.length = 1) (hp : ∀ ds m R, sp ds m R → T_Table_places K (endsD m R) (startD ["self", "seats", "one"] ds) m) :
    FnD PG w K mg base 1 (prA K "Table" "places") sp := by
  obtain ⟨fd, F⟩ := k.c.d 63
  have S : FnScope ["self", "seats", "one"] ["self"] (defScope (mthOf PG 40 4)) := ⟨rfl, rfl, rfl, by decide +kernel, rfl, by decide +kernel, by decide +kernel⟩
  exact FnOk.pos (fn_body F S hl fun cdv A outer s H E hr => ⟨T_Table_places K, (ds_cons (dst_set 1 S.nd (de_fld k.a_Table_own_seats (dv 0)))
    (ds_one (dst_ret (de_dc (own := [("one", 2)]) rfl S.nd (di_seq (de_fld k.a_Table_own_threads (dv 0))) ⟨rfl, of_decide_eq_true (by kernel_rfl), of_decide_eq_true (by kernel_rfl), of_decide_eq_true (by kernel_rfl), of_decide_eq_true (by kernel_rfl)⟩ (dgc_name 2 (by decide) fun _ _ _ _ _ => pg_name (i := 2) S.nd rfl (.inl rfl)) (fun _ _ _ _ _ => (dts_one (dt_cmp (od_inDic (units1 hr)) (dv 2) (dv 1)))) (fun _ _ _ _ _ => (dv 2)) (fun _ _ _ _ _ => (de_tup (da_cons (de_slot k.a_Seat_own_first (de_dget (units1 hr) (dv 1) (dv 2))) (da_cons (de_slot k.a_Seat_own_direction (de_dget (units1 hr) (dv 1) (dv 2))) da_nil)))))))), hp⟩)
    (F.bindsN fun _ _ _ _ _ _ us hl => match us, hl with | [_], _ => rfl)

theorem wk_Table_run {w : World} {K : PySem.W.Frag} {mg : Str → Option Value} {base h : Heap} (k : Kn K mg base h) {sp : DRs}  (hl : ∀ ds m R, sp ds m R → ds.length = 1) (hp : ∀ ds m R, sp ds m R → T_Table_run K (endsD m R) (startD ["self"] ds) m) :
    FnD PG w K mg base 1 (prA K "Table" "run") sp := by
  obtain ⟨fd, F⟩ := k.c.d 64
  have S : FnScope ["self"] ["self"] (defScope (mthOf PG 40 5)) := ⟨rfl, rfl, rfl, by decide +kernel, rfl, by decide +kernel, by decide +kernel⟩
  exact FnOk.pos (fn_body F S hl fun cdv A outer s H E hr => ⟨T_Table_run K, (ds_one (dst_ret (de_fld k.a_Table_own_run (dv 0)))), hp⟩)
    (F.bindsN fun _ _ _ _ _ _ us hl => match us, hl with | [_], _ => rfl)

theorem wk_Table_keep_now {w : World} {K : PySem.W.Frag} {mg : Str → Option Value} {base h : Heap} (k : Kn K mg base h) {sp m_Standing : DRs} (g_Standing : GD PG w K mg base 2 (ga K "Standing") m_Standing) (hl : ∀ ds m R, sp ds m R → ds.length = 1) (hp : ∀ ds m R, sp ds m R → T_Table_keep_now K m_Standing (endsD m R) (startD ["self"] ds) m) :
    FnD PG w K mg base 3 (ma K (ga K "Table") "keep_now") sp := by
  obtain ⟨fd, F⟩ := k.c.d 50
  have S : FnScope ["self"] ["self"] (defScope (mthOf PG 40 6)) := ⟨rfl, rfl, rfl, by decide +kernel, rfl, by decide +kernel, by decide +kernel⟩
  exact FnOk.pos (fn_body F S hl fun cdv A outer s H E hr => ⟨T_Table_keep_now K m_Standing, (ds_one (dst_expr (de_bm md_append (de_fld k.a_Table_own_past (dv 0)) (da_cons (de_call g_Standing k.g_Standing hr (da_cons (de_fld k.a_Table_own_running (dv 0)) (da_cons (de_fld k.a_Table_own_names (dv 0)) (da_cons (de_fld k.a_Table_own_seats (dv 0)) (da_cons (de_fld k.a_Table_own_run (dv 0)) da_nil))))) da_nil) PySem.F.plainAttrs_list PySem.F.slot_list_append rfl))), hp⟩)
    (F.bindsN fun _ _ _ _ _ _ us hl => match us, hl with | [_], _ => rfl)

theorem wk_Table_go {w : World} {K : PySem.W.Frag} {mg : Str → Option Value} {base h : Heap} (k : Kn K mg base h) {sp s_Table_keep_now m_Round s_seats_behind m_Run : DRs} (gh_Table_keep_now : GD PG w K mg base 3 (ma K (ga K "Table") "keep_now") s_Table_keep_now) (g_Round : GD PG w K mg base 7 (ga K "Round") m_Round) (gh_seats_behind : GD PG w K mg base 4 (ga K "seats_behind") s_seats_behind) (g_Run : GD PG w K mg base 7 (ga K "Run") m_Run) (hl : ∀ ds m R, sp ds m R → ds.length = 2) (hp : ∀ ds m R, sp ds m R → T_Table_go K s_Table_keep_now m_Round s_seats_behind m_Run (endsD m R) (startD ["self", "extra", "stopped", "whole", "taken", "thread"] ds) m) :
    FnD PG w K mg base 8 (ma K (ga K "Table") "go") sp := by
  obtain ⟨fd, F⟩ := k.c.d 51
  have S : FnScope ["self", "extra", "stopped", "whole", "taken", "thread"] ["self", "extra"] (defScope (mthOf PG 40 7)) := ⟨rfl, rfl, rfl, by decide +kernel, rfl, by decide +kernel, by decide +kernel⟩
  exact FnOk.pos (fn_body F S hl fun cdv A outer s H E hr => ⟨T_Table_go K s_Table_keep_now m_Round s_seats_behind m_Run, (ds_cons (dst_if (DW.dt (dw_or (dt_not (dt_val (de_callB (cd_isiO k.k_Round_Round) k.f_isinstance b_isinstance (da_cons (dv 1) (da_cons (de_gref k.g_Round) da_nil))))) (dw_or1 (dt_cmp (od_ne hr.units) (de_slot k.a_Round_own_threads (dv 1)) (de_fld k.a_Table_own_running (dv 0)))))) ds_never ds_nil)
    (ds_cons (dst_if (dt_cmp od_ge (de_callB cd_len k.f_len b_len (da_cons (de_slot k.a_Run_own_rounds (de_fld k.a_Table_own_run (dv 0))) da_nil)) (de_gint k.i_MAX_ROUNDS)) ds_never ds_nil)
    (ds_cons (dst_expr (de_methI0 k.c_Table k.m_Table_keep_now gh_Table_keep_now hr (dv 0)))
    (ds_cons (dst_setLc 2 (own := [("thread", 5)]) rfl S.nd (di_seq (de_fld k.a_Table_own_threads (dv 0))) ⟨rfl, of_decide_eq_true (by kernel_rfl), of_decide_eq_true (by kernel_rfl), of_decide_eq_true (by kernel_rfl), of_decide_eq_true (by kernel_rfl)⟩ (dgc_name 5 (by decide) fun _ _ _ _ _ => pg_name (i := 5) S.nd rfl (.inl rfl)) (fun _ _ _ _ _ => (dts_one (dt_cmp od_notInS (dv 5) (de_fld k.a_Table_own_running (dv 0))))) (fun _ _ _ _ _ => (de_tup (da_cons (dv 5) da_nil))) rfl)
    (ds_cons (dst_set 3 S.nd (de_call g_Round k.g_Round hr (da_cons (de_tup (da_star (de_slot k.a_Round_own_blocks (dv 1)) (da_star (dv 2) da_nil))) da_nil)))
    (ds_cons (dst_asg (de_call gh_seats_behind k.g_seats_behind hr (da_cons (de_fld k.a_Table_own_seats (dv 0)) (da_cons (dv 1) da_nil))) (dg_tup rfl (dgs_cons (dg_fld k.a_Table_own_seats (dv 0)) (dgs_cons (dg_name 4 S.nd) dgs_nil))))
    (ds_cons (dst_fld k.a_Table_own_names (dv 0) (de_star2 (de_fld k.a_Table_own_names (dv 0)) (dv 4)))
    (ds_cons (dst_fld k.a_Table_own_run (dv 0) (de_call g_Run k.g_Run hr (da_cons (de_fld k.a_Table_own_threads (dv 0)) (da_cons (de_tup (da_star (de_slot k.a_Run_own_rounds (de_fld k.a_Table_own_run (dv 0))) (da_cons (dv 3) da_nil))) da_nil))))
    (ds_one (dst_ret (dv 4))))))))))), hp⟩)
    (F.bindsN fun _ _ _ _ _ _ us hl => match us, hl with | [_, _], _ => rfl)

theorem wk_Table_stop {w : World} {K : PySem.W.Frag} {mg : Str → Option Value} {base h : Heap} (k : Kn K mg base h) {sp s_is_old_name s_Table_keep_now : DRs} (gh_is_old_name : GD PG w K mg base 2 (ga K "is_old_name") s_is_old_name) (gh_Table_keep_now : GD PG w K mg base 3 (ma K (ga K "Table") "keep_now") s_Table_keep_now) (hl : ∀ ds m R, sp ds m R → ds.length = 2) (hp : ∀ ds m R, sp ds m R → T_Table_stop K s_is_old_name s_Table_keep_now (endsD m R) (startD ["self", "thread", "one"] ds) m) :
    FnD PG w K mg base 4 (ma K (ga K "Table") "stop") sp := by
  obtain ⟨fd, F⟩ := k.c.d 52
  have S : FnScope ["self", "thread", "one"] ["self", "thread"] (defScope (mthOf PG 40 8)) := ⟨rfl, rfl, rfl, by decide +kernel, rfl, by decide +kernel, by decide +kernel⟩
  exact FnOk.pos (fn_body F S hl fun cdv A outer s H E hr => ⟨T_Table_stop K s_is_old_name s_Table_keep_now, (ds_cons (dst_if (DW.dt (dw_or (dt_not (dt_val (de_call gh_is_old_name k.g_is_old_name hr (da_cons (dv 1) da_nil)))) (dw_or1 (dt_cmp od_notInS (dv 1) (de_fld k.a_Table_own_running (dv 0)))))) ds_never ds_nil)
    (ds_cons (dst_if (dt_cmp (od_eq hr.units) (de_callB cd_len k.f_len b_len (da_cons (de_fld k.a_Table_own_running (dv 0)) da_nil)) de_int) ds_never ds_nil)
    (ds_cons (dst_expr (de_methI0 k.c_Table k.m_Table_keep_now gh_Table_keep_now hr (dv 0)))
    (ds_cons (dst_fld k.a_Table_own_running (dv 0) (de_callTy cd_tuple k.f_tuple b_tuple (da_cons (de_lc (own := [("one", 2)]) rfl S.nd (di_seq (de_fld k.a_Table_own_running (dv 0))) ⟨rfl, of_decide_eq_true (by kernel_rfl), of_decide_eq_true (by kernel_rfl), of_decide_eq_true (by kernel_rfl), of_decide_eq_true (by kernel_rfl)⟩ (dgc_name 2 (by decide) fun _ _ _ _ _ => pg_name (i := 2) S.nd rfl (.inl rfl)) (fun _ _ _ _ _ => (dts_one (dt_cmp (od_ne hr.units) (dv 2) (dv 1)))) (fun _ _ _ _ _ => (dv 2))) da_nil)))
    (ds_one (dst_ret (de_dget2 (units1 hr) (de_fld k.a_Table_own_names (dv 0)) (dv 1) de_non))))))), hp⟩)
    (F.bindsN fun _ _ _ _ _ _ us hl => match us, hl with | [_, _], _ => rfl)

theorem wk_Table_finish {w : World} {K : PySem.W.Frag} {mg : Str → Option Value} {base h : Heap} (k : Kn K mg base h) {fd : FuncData} (F : FdA K (dfM "Table" "finish" "Table.finish" (mthOf PG 40 9) [("joint", .bl true)]) fd) {sp s_is_waiting s_Table_go m_Round : DRs} (gh_is_waiting : GD PG w K mg base 1 (ga K "is_waiting") s_is_waiting) (gh_Table_go : GD PG w K mg base 8 (ma K (ga K "Table") "go") s_Table_go) (g_Round : GD PG w K mg base 7 (ga K "Round") m_Round) (hl : ∀ ds m R, sp ds m R → ds.length = 2) (hp : ∀ ds m R, sp ds m R → T_Table_finish K s_is_waiting s_Table_go m_Round (endsD m R) (startD ["self", "joint", "blocks", "count", "thread"] ds) m) :
    FnOk PG w K mg base CX0 9 (ma K (ga K "Table") "finish") fd ["self", "joint"] (spD K sp) := by
  have S : FnScope ["self", "joint", "blocks", "count", "thread"] ["self", "joint"] (defScope (mthOf PG 40 9)) := ⟨rfl, rfl, rfl, by decide +kernel, rfl, by decide +kernel, by decide +kernel⟩
  exact fn_body F S hl fun cdv A outer s H E hr => ⟨T_Table_finish K s_is_waiting s_Table_go m_Round, (ds_cons (dst_if (dt_not (dt_val (de_callB (cd_isi (U := "bool")) k.f_isinstance b_isinstance (da_cons (dv 1) (da_cons (de_gty k.f_bool b_bool) da_nil))))) ds_never ds_nil)
    (ds_cons (dst_par 2 3 rfl S.nd (da_cons (de_if (dt_val (dv 1)) (de_tup (da_cons (de_fld k.a_Table_own_running (dv 0)) da_nil)) (de_callTy cd_tuple k.f_tuple b_tuple (da_cons (de_lc (own := [("thread", 4)]) rfl S.nd (di_seq (de_fld k.a_Table_own_running (dv 0))) ⟨rfl, of_decide_eq_true (by kernel_rfl), of_decide_eq_true (by kernel_rfl), of_decide_eq_true (by kernel_rfl), of_decide_eq_true (by kernel_rfl)⟩ (dgc_name 4 (by decide) fun _ _ _ _ _ => pg_name (i := 4) S.nd rfl (.inl rfl)) (fun _ _ _ _ _ => dts_nil) (fun _ _ _ _ _ => (de_tup (da_cons (dv 4) da_nil)))) da_nil))) (da_cons de_int da_nil)))
    (ds_cons (dst_while .never (DW.dt (dw_and (dt_val (de_call gh_is_waiting k.g_is_waiting hr (da_cons (dv 0) da_nil))) (dw_and1 (dt_cmp od_lt (de_callB cd_len k.f_len b_len (da_cons (de_slot k.a_Run_own_rounds (de_fld k.a_Table_own_run (dv 0))) da_nil)) (de_gint k.i_MAX_ROUNDS))))) (ds_cons (dst_expr (de_methI k.c_Table k.m_Table_go gh_Table_go hr (dv 0) (da_cons (de_call g_Round k.g_Round hr (da_cons (dv 2) da_nil)) da_nil)))
    (ds_one (dst_aug 3 S.nd de_int id_add))))
    (ds_one (dst_ret (dv 3)))))), hp⟩

theorem wk_Table_undo {w : World} {K : PySem.W.Frag} {mg : Str → Option Value} {base h : Heap} (k : Kn K mg base h) {fd : FuncData} (F : FdA K (dfM "Table" "undo" "Table.undo" (mthOf PG 40 10) [("many", .int 1)]) fd) {sp s_is_integer : DRs} (gh_is_integer : GD PG w K mg base 1 (ga K "is_integer") s_is_integer) (hl : ∀ ds m R, sp ds m R → ds.length = 2) (hp : ∀ ds m R, sp ds m R → T_Table_undo K s_is_integer (endsD m R) (startD ["self", "many", "turn", "standing"] ds) m) :
    FnOk PG w K mg base CX0 2 (ma K (ga K "Table") "undo") fd ["self", "many"] (spD K sp) := by
  have S : FnScope ["self", "many", "turn", "standing"] ["self", "many"] (defScope (mthOf PG 40 10)) := ⟨rfl, rfl, rfl, by decide +kernel, rfl, by decide +kernel, by decide +kernel⟩
  exact fn_body F S hl fun cdv A outer s H E hr => ⟨T_Table_undo K s_is_integer, (ds_cons (dst_if (DW.dt (dw_or (dt_not (dt_val (de_call gh_is_integer k.g_is_integer hr (da_cons (dv 1) da_nil)))) (dw_or1 (dt_cmp od_lt (dv 1) de_int)))) ds_never ds_nil)
    (ds_cons (dst_if (dt_cmp od_gt (dv 1) (de_callB cd_len k.f_len b_len (da_cons (de_fld k.a_Table_own_past (dv 0)) da_nil))) ds_never ds_nil)
    (ds_cons (dst_for .never rfl (di_range1 k.f_range (da_cons (dv 1) da_nil)) (dg_name 2 S.nd) (ds_cons (dst_set 3 S.nd (de_bm0 md_pop (de_fld k.a_Table_own_past (dv 0)) PySem.F.plainAttrs_list PySem.F.slot_list_pop rfl))
    (ds_cons (dst_asg (de_tup (da_cons (de_slot k.a_Standing_held_running (dv 3)) (da_cons (de_slot k.a_Standing_held_names (dv 3)) da_nil))) (dg_tup rfl (dgs_cons (dg_fld k.a_Table_own_running (dv 0)) (dgs_cons (dg_fld k.a_Table_own_names (dv 0)) dgs_nil))))
    (ds_one (dst_asg (de_tup (da_cons (de_slot k.a_Standing_held_seats (dv 3)) (da_cons (de_slot k.a_Standing_held_run (dv 3)) da_nil))) (dg_tup rfl (dgs_cons (dg_fld k.a_Table_own_seats (dv 0)) (dgs_cons (dg_fld k.a_Table_own_run (dv 0)) dgs_nil))))))))
    (ds_one (dst_ret (de_fld k.a_Table_own_running (dv 0))))))), hp⟩

theorem wk_Table_twin {w : World} {K : PySem.W.Frag} {mg : Str → Option Value} {base h : Heap} (k : Kn K mg base h) {sp m_Table : DRs} (g_Table : GD PG w K mg base 9 (ga K "Table") m_Table) (hl : ∀ ds m R, sp ds m R → ds.length = 1) (hp : ∀ ds m R, sp ds m R → T_Table_twin K m_Table (endsD m R) (startD ["self", "made"] ds) m) :
    FnD PG w K mg base 10 (ma K (ga K "Table") "twin") sp := by
  obtain ⟨fd, F⟩ := k.c.d 55
  have S : FnScope ["self", "made"] ["self"] (defScope (mthOf PG 40 11)) := ⟨rfl, rfl, rfl, by decide +kernel, rfl, by decide +kernel, by decide +kernel⟩
  exact FnOk.pos (fn_body F S hl fun cdv A outer s H E hr => ⟨T_Table_twin K m_Table, (ds_cons (dst_set 1 S.nd (de_call g_Table k.g_Table hr (da_cons (de_fld k.a_Table_own_threads (dv 0)) da_nil)))
    (ds_cons (dst_asg (de_tup (da_cons (de_fld k.a_Table_own_running (dv 0)) (da_cons (de_fld k.a_Table_own_names (dv 0)) da_nil))) (dg_tup rfl (dgs_cons (dg_fld k.a_Table_own_running (dv 1)) (dgs_cons (dg_fld k.a_Table_own_names (dv 1)) dgs_nil))))
    (ds_cons (dst_asg (de_tup (da_cons (de_fld k.a_Table_own_seats (dv 0)) (da_cons (de_fld k.a_Table_own_run (dv 0)) da_nil))) (dg_tup rfl (dgs_cons (dg_fld k.a_Table_own_seats (dv 1)) (dgs_cons (dg_fld k.a_Table_own_run (dv 1)) dgs_nil))))
    (ds_cons (dst_fld k.a_Table_own_past (dv 1) (de_callTy cd_listM k.f_list b_list (da_cons (de_fld k.a_Table_own_past (dv 0)) da_nil)))
    (ds_one (dst_ret (dv 1))))))), hp⟩)
    (F.bindsN fun _ _ _ _ _ _ us hl => match us, hl with | [_], _ => rfl)

theorem wk_Table___bool__ {w : World} {K : PySem.W.Frag} {mg : Str → Option Value} {base h : Heap} (k : Kn K mg base h) {sp : DRs}  (hl : ∀ ds m R, sp ds m R → ds.length = 1) (hp : ∀ ds m R, sp ds m R → T_Table___bool__ K (endsD m R) (startD ["self", "thread"] ds) m) :
    FnD PG w K mg base 1 (ma K (ga K "Table") "__bool__") sp := by
  obtain ⟨fd, F⟩ := k.c.d 56
  have S : FnScope ["self", "thread"] ["self"] (defScope (mthOf PG 40 12)) := ⟨rfl, rfl, rfl, by decide +kernel, rfl, by decide +kernel, by decide +kernel⟩
  exact FnOk.pos (fn_body F S hl fun cdv A outer s H E hr => ⟨T_Table___bool__ K, (ds_one (dst_ret (de_callB (cd_any rfl) k.f_any b_any (da_cons (de_lc (own := [("thread", 1)]) rfl S.nd (di_seq (de_fld k.a_Table_own_running (dv 0))) ⟨rfl, of_decide_eq_true (by kernel_rfl), of_decide_eq_true (by kernel_rfl), of_decide_eq_true (by kernel_rfl), of_decide_eq_true (by kernel_rfl)⟩ (dgc_name 1 (by decide) fun _ _ _ _ _ => pg_name (i := 1) S.nd rfl (.inl rfl)) (fun _ _ _ _ _ => dts_nil) (fun _ _ _ _ _ => (de_cmp (od_notInDic (units1 hr)) (dv 1) (de_fld k.a_Table_own_names (dv 0))))) da_nil)))), hp⟩)
    (F.bindsN fun _ _ _ _ _ _ us hl => match us, hl with | [_], _ => rfl)

theorem wk_Table___len__ {w : World} {K : PySem.W.Frag} {mg : Str → Option Value} {base h : Heap} (k : Kn K mg base h) {sp : DRs}  (hl : ∀ ds m R, sp ds m R → ds.length = 1) (hp : ∀ ds m R, sp ds m R → T_Table___len__ K (endsD m R) (startD ["self"] ds) m) :
    FnD PG w K mg base 1 (ma K (ga K "Table") "__len__") sp := by
  obtain ⟨fd, F⟩ := k.c.d 57
  have S : FnScope ["self"] ["self"] (defScope (mthOf PG 40 14)) := ⟨rfl, rfl, rfl, by decide +kernel, rfl, by decide +kernel, by decide +kernel⟩
  exact FnOk.pos (fn_body F S hl fun cdv A outer s H E hr => ⟨T_Table___len__ K, (ds_one (dst_ret (de_callB cd_len k.f_len b_len (da_cons (de_slot k.a_Run_own_rounds (de_fld k.a_Table_own_run (dv 0))) da_nil)))), hp⟩)
    (F.bindsN fun _ _ _ _ _ _ us hl => match us, hl with | [_], _ => rfl)

theorem wk_Table___eq__ {w : World} {K : PySem.W.Frag} {mg : Str → Option Value} {base h : Heap} (k : Kn K mg base h) {sp s_Run___eq__ : DRs} (h_Run___eq__ : FnD PG w K mg base 3 (ma K (ga K "Run") "__eq__") s_Run___eq__) (hl : ∀ ds m R, sp ds m R → ds.length = 2) (hp : ∀ ds m R, sp ds m R → T_Table___eq__ K s_Run___eq__ (endsD m R) (startD ["self", "other"] ds) m) :
    FnD PG w K mg base 4 (ma K (ga K "Table") "__eq__") sp := by
  obtain ⟨fd, F⟩ := k.c.d 58
  have S : FnScope ["self", "other"] ["self", "other"] (defScope (mthOf PG 40 15)) := ⟨rfl, rfl, rfl, by decide +kernel, rfl, by decide +kernel, by decide +kernel⟩
  exact FnOk.pos (fn_body F S hl fun cdv A outer s H E hr => ⟨T_Table___eq__ K s_Run___eq__, (ds_one (dst_ret (de_and (de_callB (cd_isiI k.k_Table_Table) k.f_isinstance b_isinstance (da_cons (dv 1) (da_cons (de_gref k.g_Table) da_nil))) (de_and (de_cmp (od_eq hr.units) (de_fld k.a_Table_own_threads (dv 0)) (de_fld k.a_Table_own_threads (dv 1))) (de_and (de_cmp (od_eq hr.units) (de_fld k.a_Table_own_running (dv 0)) (de_fld k.a_Table_own_running (dv 1))) (de_one (de_cmp (od_ownEq k.eq_Run h_Run___eq__ hr) (de_fld k.a_Table_own_run (dv 0)) (de_fld k.a_Table_own_run (dv 1))))))))), hp⟩)
    (F.bindsN fun _ _ _ _ _ _ us hl => match us, hl with | [_, _], _ => rfl)

end W82
set_option Elab.async false
set_option linter.all false
set_option maxRecDepth 100000
set_option maxHeartbeats 4000000
namespace W82
open PySem PySem.Spec PyProof.Rows L2 SlX DL FN
theorem wk_Table___str__ {w : World} {K : PySem.W.Frag} {mg : Str → Option Value} {base h : Heap} (k : Kn K mg base h) {sp : DRs}  (hl : ∀ ds m R, sp ds m R → ds.length = 1) (hp : ∀ ds m R, sp ds m R → T_Table___str__ K (endsD m R) (startD ["self", "count", "named"] ds) m) :
    FnD PG w K mg base 1 (ma K (ga K "Table") "__str__") sp := by
  obtain ⟨fd, F⟩ := k.c.d 59
  have S : FnScope ["self", "count", "named"] ["self"] (defScope (mthOf PG 40 16)) := ⟨rfl, rfl, rfl, by decide +kernel, rfl, by decide +kernel, by decide +kernel⟩
  exact FnOk.pos (fn_body F S hl fun cdv A outer s H E hr => ⟨T_Table___str__ K, (ds_cons (dst_par 1 2 rfl S.nd (da_cons (de_callB cd_len k.f_len b_len (da_cons (de_slot k.a_Run_own_rounds (de_fld k.a_Table_own_run (dv 0))) da_nil)) (da_cons (de_callB cd_lenDic k.f_len b_len (da_cons (de_fld k.a_Table_own_names (dv 0)) da_nil)) da_nil)))
    (ds_one (dst_ret (de_joined (.cons de_str (.cons (de_fmt (de_callB cd_len k.f_len b_len (da_cons (de_fld k.a_Table_own_threads (dv 0)) da_nil))) (.cons de_str (.cons (de_fmt (dv 1)) (.cons de_str (.cons (de_fmt (dv 2)) (.cons de_str .nil))))))))))), hp⟩)
    (F.bindsN fun _ _ _ _ _ _ us hl => match us, hl with | [_], _ => rfl)

theorem wk_is_number_text {w : World} {K : PySem.W.Frag} {mg : Str → Option Value} {base h : Heap} (k : Kn K mg base h) {sp : DRs}  (hl : ∀ ds m R, sp ds m R → ds.length = 1) (hp : ∀ ds m R, sp ds m R → T_is_number_text K (endsD m R) (startD ["text", "digit"] ds) m) :
    FnD PG w K mg base 1 (ga K "is_number_text") sp := by
  obtain ⟨fd, F⟩ := k.c.d 14
  have S : FnScope ["text", "digit"] ["text"] (defScope (topOf PG 47)) := ⟨rfl, rfl, rfl, by decide +kernel, rfl, by decide +kernel, by decide +kernel⟩
  exact FnOk.pos (fn_body F S hl fun cdv A outer s H E hr => ⟨T_is_number_text K, (ds_one (dst_ret (de_and (de_cmp od_neS (dv 0) de_str) (de_and (de_callB (cd_all rfl) k.f_all b_all (da_cons (de_lc (own := [("digit", 1)]) rfl S.nd (di_str (dv 0)) ⟨rfl, of_decide_eq_true (by kernel_rfl), of_decide_eq_true (by kernel_rfl), of_decide_eq_true (by kernel_rfl), of_decide_eq_true (by kernel_rfl)⟩ (dgc_name 1 (by decide) fun _ _ _ _ _ => pg_name (i := 1) S.nd rfl (.inl rfl)) (fun _ _ _ _ _ => dts_nil) (fun _ _ _ _ _ => (de_cmp od_inSign (dv 1) (de_gstr k.s_DIGITS)))) da_nil)) (de_one (de_or (de_cmp od_eqS (dv 0) de_str) (de_one (de_cmp od_neS (de_ix (dv 0) de_int) de_str)))))))), hp⟩)
    (F.bindsN fun _ _ _ _ _ _ us hl => match us, hl with | [_], _ => rfl)

theorem wk_are_number_texts {w : World} {K : PySem.W.Frag} {mg : Str → Option Value} {base h : Heap} (k : Kn K mg base h) {sp s_is_number_text : DRs} (gh_is_number_text : GD PG w K mg base 1 (ga K "is_number_text") s_is_number_text) (hl : ∀ ds m R, sp ds m R → ds.length = 1) (hp : ∀ ds m R, sp ds m R → T_are_number_texts K s_is_number_text (endsD m R) (startD ["text", "word"] ds) m) :
    FnD PG w K mg base 2 (ga K "are_number_texts") sp := by
  obtain ⟨fd, F⟩ := k.c.d 15
  have S : FnScope ["text", "word"] ["text"] (defScope (topOf PG 48)) := ⟨rfl, rfl, rfl, by decide +kernel, rfl, by decide +kernel, by decide +kernel⟩
  exact FnOk.pos (fn_body F S hl fun cdv A outer s H E hr => ⟨T_are_number_texts K s_is_number_text, (ds_one (dst_ret (de_callB (cd_all rfl) k.f_all b_all (da_cons (de_lc (own := [("word", 1)]) rfl S.nd (di_seq (de_bm md_split (dv 0) (da_cons de_str da_nil) PySem.F.plainAttrs_str PySem.F.slot_str_split rfl)) ⟨rfl, of_decide_eq_true (by kernel_rfl), of_decide_eq_true (by kernel_rfl), of_decide_eq_true (by kernel_rfl), of_decide_eq_true (by kernel_rfl)⟩ (dgc_name 1 (by decide) fun _ _ _ _ _ => pg_name (i := 1) S.nd rfl (.inl rfl)) (fun _ _ _ _ _ => dts_nil) (fun _ _ _ _ _ => (de_call gh_is_number_text k.g_is_number_text hr (da_cons (dv 1) da_nil)))) da_nil)))), hp⟩)
    (F.bindsN fun _ _ _ _ _ _ us hl => match us, hl with | [_], _ => rfl)

theorem wk_numbers_in {w : World} {K : PySem.W.Frag} {mg : Str → Option Value} {base h : Heap} (k : Kn K mg base h) {sp : DRs}  (hl : ∀ ds m R, sp ds m R → ds.length = 1) (hp : ∀ ds m R, sp ds m R → T_numbers_in K (endsD m R) (startD ["text", "word"] ds) m) :
    FnD PG w K mg base 1 (ga K "numbers_in") sp := by
  obtain ⟨fd, F⟩ := k.c.d 16
  have S : FnScope ["text", "word"] ["text"] (defScope (topOf PG 49)) := ⟨rfl, rfl, rfl, by decide +kernel, rfl, by decide +kernel, by decide +kernel⟩
  exact FnOk.pos (fn_body F S hl fun cdv A outer s H E hr => ⟨T_numbers_in K, (ds_one (dst_ret (de_callTy cd_tuple k.f_tuple b_tuple (da_cons (de_lc (own := [("word", 1)]) rfl S.nd (di_seq (de_bm md_split (dv 0) (da_cons de_str da_nil) PySem.F.plainAttrs_str PySem.F.slot_str_split rfl)) ⟨rfl, of_decide_eq_true (by kernel_rfl), of_decide_eq_true (by kernel_rfl), of_decide_eq_true (by kernel_rfl), of_decide_eq_true (by kernel_rfl)⟩ (dgc_name 1 (by decide) fun _ _ _ _ _ => pg_name (i := 1) S.nd rfl (.inl rfl)) (fun _ _ _ _ _ => dts_nil) (fun _ _ _ _ _ => (de_callTy cd_intS k.f_int b_int (da_cons (dv 1) da_nil)))) da_nil)))), hp⟩)
    (F.bindsN fun _ _ _ _ _ _ us hl => match us, hl with | [_], _ => rfl)

theorem wk_names_text {w : World} {K : PySem.W.Frag} {mg : Str → Option Value} {base h : Heap} (k : Kn K mg base h) {sp : DRs}  (hl : ∀ ds m R, sp ds m R → ds.length = 1) (hp : ∀ ds m R, sp ds m R → T_names_text K (endsD m R) (startD ["names", "name"] ds) m) :
    FnD PG w K mg base 1 (ga K "names_text") sp := by
  obtain ⟨fd, F⟩ := k.c.d 17
  have S : FnScope ["names", "name"] ["names"] (defScope (topOf PG 50)) := ⟨rfl, rfl, rfl, by decide +kernel, rfl, by decide +kernel, by decide +kernel⟩
  exact FnOk.pos (fn_body F S hl fun cdv A outer s H E hr => ⟨T_names_text K, (ds_one (dst_ret (de_bm md_join de_str (da_cons (de_lc (own := [("name", 1)]) rfl S.nd (di_seq (dv 0)) ⟨rfl, of_decide_eq_true (by kernel_rfl), of_decide_eq_true (by kernel_rfl), of_decide_eq_true (by kernel_rfl), of_decide_eq_true (by kernel_rfl)⟩ (dgc_name 1 (by decide) fun _ _ _ _ _ => pg_name (i := 1) S.nd rfl (.inl rfl)) (fun _ _ _ _ _ => dts_nil) (fun _ _ _ _ _ => (de_callTy cd_strI k.f_str b_str (da_cons (dv 1) da_nil)))) da_nil) PySem.F.plainAttrs_str PySem.F.slot_str_join rfl))), hp⟩)
    (F.bindsN fun _ _ _ _ _ _ us hl => match us, hl with | [_], _ => rfl)

theorem wk_run_text {w : World} {K : PySem.W.Frag} {mg : Str → Option Value} {base h : Heap} (k : Kn K mg base h) {sp s_Round___str__ s_names_text : DRs} (h_Round___str__ : FnD PG w K mg base 1 (ma K (ga K "Round") "__str__") s_Round___str__) (gh_names_text : GD PG w K mg base 1 (ga K "names_text") s_names_text) (hl : ∀ ds m R, sp ds m R → ds.length = 1) (hp : ∀ ds m R, sp ds m R → T_run_text K s_Round___str__ s_names_text (endsD m R) (startD ["run", "one"] ds) m) :
    FnD PG w K mg base 4 (ga K "run_text") sp := by
  obtain ⟨fd, F⟩ := k.c.d 18
  have S : FnScope ["run", "one"] ["run"] (defScope (topOf PG 51)) := ⟨rfl, rfl, rfl, by decide +kernel, rfl, by decide +kernel, by decide +kernel⟩
  exact FnOk.pos (fn_body F S hl fun cdv A outer s H E hr => ⟨T_run_text K s_Round___str__ s_names_text, (ds_one (dst_ret (de_orT (de_bm md_join (de_gstr k.s_COMMA) (da_cons (de_lc (own := [("one", 1)]) rfl S.nd (di_seq (de_slot k.a_Run_own_rounds (dv 0))) ⟨rfl, of_decide_eq_true (by kernel_rfl), of_decide_eq_true (by kernel_rfl), of_decide_eq_true (by kernel_rfl), of_decide_eq_true (by kernel_rfl)⟩ (dgc_name 1 (by decide) fun _ _ _ _ _ => pg_name (i := 1) S.nd rfl (.inl rfl)) (fun _ _ _ _ _ => dts_nil) (fun _ _ _ _ _ => (de_callTy (cd_strOwn k.sp_Round___str__ h_Round___str__ hr) k.f_str b_str (da_cons (dv 1) da_nil)))) da_nil) PySem.F.plainAttrs_str PySem.F.slot_str_join rfl) (de_one (de_op od_add (de_gstr k.s_NONE) (de_call gh_names_text k.g_names_text hr (da_cons (de_slot k.a_Run_own_threads (dv 0)) da_nil))))))), hp⟩)
    (F.bindsN fun _ _ _ _ _ _ us hl => match us, hl with | [_], _ => rfl)

theorem wk_write_run {w : World} {K : PySem.W.Frag} {mg : Str → Option Value} {base h : Heap} (k : Kn K mg base h) {sp s_require_run s_run_text : DRs} (gh_require_run : GD PG w K mg base 1 (ga K "require_run") s_require_run) (gh_run_text : GD PG w K mg base 4 (ga K "run_text") s_run_text) (hl : ∀ ds m R, sp ds m R → ds.length = 1) (hp : ∀ ds m R, sp ds m R → T_write_run K s_require_run s_run_text (endsD m R) (startD ["run"] ds) m) :
    FnD PG w K mg base 5 (ga K "write_run") sp := by
  obtain ⟨fd, F⟩ := k.c.d 19
  have S : FnScope ["run"] ["run"] (defScope (topOf PG 52)) := ⟨rfl, rfl, rfl, by decide +kernel, rfl, by decide +kernel, by decide +kernel⟩
  exact FnOk.pos (fn_body F S hl fun cdv A outer s H E hr => ⟨T_write_run K s_require_run s_run_text, (ds_cons (dst_expr (de_call gh_require_run k.g_require_run hr (da_cons (dv 0) da_nil)))
    (ds_one (dst_ret (de_call gh_run_text k.g_run_text hr (da_cons (dv 0) da_nil))))), hp⟩)
    (F.bindsN fun _ _ _ _ _ _ us hl => match us, hl with | [_], _ => rfl)

theorem wk_require_text {w : World} {K : PySem.W.Frag} {mg : Str → Option Value} {base h : Heap} (k : Kn K mg base h) {sp : DRs}  (hl : ∀ ds m R, sp ds m R → ds.length = 1) (hp : ∀ ds m R, sp ds m R → T_require_text K (endsD m R) (startD ["text"] ds) m) :
    FnD PG w K mg base 1 (ga K "require_text") sp := by
  obtain ⟨fd, F⟩ := k.c.d 20
  have S : FnScope ["text"] ["text"] (defScope (topOf PG 53)) := ⟨rfl, rfl, rfl, by decide +kernel, rfl, by decide +kernel, by decide +kernel⟩
  exact FnOk.pos (fn_body F S hl fun cdv A outer s H E hr => ⟨T_require_text K, (ds_one (dst_if (dt_not (dt_val (de_callB (cd_isi (U := "str")) k.f_isinstance b_isinstance (da_cons (dv 0) (da_cons (de_gty k.f_str b_str) da_nil))))) ds_never ds_nil)), hp⟩)
    (F.bindsN fun _ _ _ _ _ _ us hl => match us, hl with | [_], _ => rfl)

theorem wk_require_pieces {w : World} {K : PySem.W.Frag} {mg : Str → Option Value} {base h : Heap} (k : Kn K mg base h) {sp : DRs}  (hl : ∀ ds m R, sp ds m R → ds.length = 1) (hp : ∀ ds m R, sp ds m R → T_require_pieces K (endsD m R) (startD ["rights", "wrong"] ds) m) :
    FnD PG w K mg base 1 (ga K "require_pieces") sp := by
  obtain ⟨fd, F⟩ := k.c.d 21
  have S : FnScope ["rights", "wrong"] ["rights"] (defScope (topOf PG 54)) := ⟨rfl, rfl, rfl, by decide +kernel, rfl, by decide +kernel, by decide +kernel⟩
  have TB := k.tb ("require_pieces", none) (by decide)
  have hco := codeAt F
  exact FnOk.pos (fn_bodyC F S hco hl fun A outer s H E hr => ⟨T_require_pieces K, (ds_cons (dst_set 1 S.nd (de_nextNot hr k.f_next TB rfl ⟨rfl, rfl, by decide +kernel, rfl, rfl, rfl, by decide, fun y hy hf => cell_has ((by decide +kernel : ∀ y ∈ _, y.2 = NameKind.free → (defScope (topOf PG 54)).names.lookup y.1 = some .cell) y hy hf)⟩ k.f_enumerate (dv 0)))
    (ds_one (dst_if (dt_cmp od_isnot (dv 1) de_non) ds_never ds_nil))), hp⟩)
    (F.bindsN fun _ _ _ _ _ _ us hl => match us, hl with | [_], _ => rfl)

theorem wk_is_round_text {w : World} {K : PySem.W.Frag} {mg : Str → Option Value} {base h : Heap} (k : Kn K mg base h) {sp s_are_number_texts : DRs} (gh_are_number_texts : GD PG w K mg base 2 (ga K "are_number_texts") s_are_number_texts) (hl : ∀ ds m R, sp ds m R → ds.length = 1) (hp : ∀ ds m R, sp ds m R → T_is_round_text K s_are_number_texts (endsD m R) (startD ["text", "piece"] ds) m) :
    FnD PG w K mg base 3 (ga K "is_round_text") sp := by
  obtain ⟨fd, F⟩ := k.c.d 22
  have S : FnScope ["text", "piece"] ["text"] (defScope (topOf PG 55)) := ⟨rfl, rfl, rfl, by decide +kernel, rfl, by decide +kernel, by decide +kernel⟩
  exact FnOk.pos (fn_body F S hl fun cdv A outer s H E hr => ⟨T_is_round_text K s_are_number_texts, (ds_one (dst_ret (de_callB (cd_all rfl) k.f_all b_all (da_cons (de_lc (own := [("piece", 1)]) rfl S.nd (di_seq (de_bm md_split (dv 0) (da_cons (de_gstr k.s_BAR) da_nil) PySem.F.plainAttrs_str PySem.F.slot_str_split rfl)) ⟨rfl, of_decide_eq_true (by kernel_rfl), of_decide_eq_true (by kernel_rfl), of_decide_eq_true (by kernel_rfl), of_decide_eq_true (by kernel_rfl)⟩ (dgc_name 1 (by decide) fun _ _ _ _ _ => pg_name (i := 1) S.nd rfl (.inl rfl)) (fun _ _ _ _ _ => dts_nil) (fun _ _ _ _ _ => (de_call gh_are_number_texts k.g_are_number_texts hr (da_cons (dv 1) da_nil)))) da_nil)))), hp⟩)
    (F.bindsN fun _ _ _ _ _ _ us hl => match us, hl with | [_], _ => rfl)

theorem wk_made_round {w : World} {K : PySem.W.Frag} {mg : Str → Option Value} {base h : Heap} (k : Kn K mg base h) {sp m_Round s_numbers_in : DRs} (g_Round : GD PG w K mg base 7 (ga K "Round") m_Round) (gh_numbers_in : GD PG w K mg base 1 (ga K "numbers_in") s_numbers_in) (hl : ∀ ds m R, sp ds m R → ds.length = 1) (hp : ∀ ds m R, sp ds m R → T_made_round K m_Round s_numbers_in (endsD m R) (startD ["text", "piece"] ds) m) :
    FnD PG w K mg base 8 (ga K "made_round") sp := by
  obtain ⟨fd, F⟩ := k.c.d 23
  have S : FnScope ["text", "piece"] ["text"] (defScope (topOf PG 56)) := ⟨rfl, rfl, rfl, by decide +kernel, rfl, by decide +kernel, by decide +kernel⟩
  exact FnOk.pos (fn_body F S hl fun cdv A outer s H E hr => ⟨T_made_round K m_Round s_numbers_in, (ds_one (dst_tryQ rfl rfl ⟨rfl, by decide, .inl k.g_FewError⟩ fun _ _ => (ds_one (dst_ret (de_call g_Round k.g_Round hr (da_cons (de_callTy cd_tuple k.f_tuple b_tuple (da_cons (de_lc (own := [("piece", 1)]) rfl S.nd (di_seq (de_bm md_split (dv 0) (da_cons (de_gstr k.s_BAR) da_nil) PySem.F.plainAttrs_str PySem.F.slot_str_split rfl)) ⟨rfl, of_decide_eq_true (by kernel_rfl), of_decide_eq_true (by kernel_rfl), of_decide_eq_true (by kernel_rfl), of_decide_eq_true (by kernel_rfl)⟩ (dgc_name 1 (by decide) fun _ _ _ _ _ => pg_name (i := 1) S.nd rfl (.inl rfl)) (fun _ _ _ _ _ => dts_nil) (fun _ _ _ _ _ => (de_call gh_numbers_in k.g_numbers_in hr (da_cons (dv 1) da_nil)))) da_nil)) da_nil)))))), hp⟩)
    (F.bindsN fun _ _ _ _ _ _ us hl => match us, hl with | [_], _ => rfl)

theorem wk_require_found {w : World} {K : PySem.W.Frag} {mg : Str → Option Value} {base h : Heap} (k : Kn K mg base h) {sp : DRs}  (hl : ∀ ds m R, sp ds m R → ds.length = 1) (hp : ∀ ds m R, sp ds m R → T_require_found K (endsD m R) (startD ["found"] ds) m) :
    FnD PG w K mg base 1 (ga K "require_found") sp := by
  obtain ⟨fd, F⟩ := k.c.d 24
  have S : FnScope ["found"] ["found"] (defScope (topOf PG 57)) := ⟨rfl, rfl, rfl, by decide +kernel, rfl, by decide +kernel, by decide +kernel⟩
  exact FnOk.pos (fn_body F S hl fun cdv A outer s H E hr => ⟨T_require_found K, (ds_one (dst_if (dt_cmp od_is (dv 0) de_non) ds_never ds_nil)), hp⟩)
    (F.bindsN fun _ _ _ _ _ _ us hl => match us, hl with | [_], _ => rfl)

theorem wk_made_run {w : World} {K : PySem.W.Frag} {mg : Str → Option Value} {base h : Heap} (k : Kn K mg base h) {sp m_Run : DRs} (g_Run : GD PG w K mg base 7 (ga K "Run") m_Run) (hl : ∀ ds m R, sp ds m R → ds.length = 1) (hp : ∀ ds m R, sp ds m R → T_made_run K m_Run (endsD m R) (startD ["rounds", "threads", "one"] ds) m) :
    FnD PG w K mg base 8 (ga K "made_run") sp := by
  obtain ⟨fd, F⟩ := k.c.d 25
  have S : FnScope ["rounds", "threads", "one"] ["rounds"] (defScope (topOf PG 58)) := ⟨rfl, rfl, rfl, by decide +kernel, rfl, by decide +kernel, by decide +kernel⟩
  exact FnOk.pos (fn_body F S hl fun cdv A outer s H E hr => ⟨T_made_run K m_Run, (ds_cons (dst_if (DW.dt (dw_or (dt_cmp od_gt (de_callB cd_len k.f_len b_len (da_cons (dv 0) da_nil)) (de_gint k.i_MAX_ROUNDS)) (dw_or1 (dt_not (dt_val (de_callB (cd_all rfl) k.f_all b_all (da_cons (de_lc (own := [("one", 2)]) rfl S.nd (di_seq (dv 0)) ⟨rfl, of_decide_eq_true (by kernel_rfl), of_decide_eq_true (by kernel_rfl), of_decide_eq_true (by kernel_rfl), of_decide_eq_true (by kernel_rfl)⟩ (dgc_name 2 (by decide) fun _ _ _ _ _ => pg_name (i := 2) S.nd rfl (.inl rfl)) (fun _ _ _ _ _ => dts_nil) (fun _ _ _ _ _ => (de_cmp od_isnot (dv 2) de_non))) da_nil))))))) (ds_one (dst_ret de_non)) ds_nil)
    (ds_cons (dst_set 1 S.nd (de_slot k.a_Round_own_threads (de_ix (dv 0) de_int)))
    (ds_one (dst_ret (de_if (dt_val (de_callB (cd_all rfl) k.f_all b_all (da_cons (de_lc (own := [("one", 2)]) rfl S.nd (di_seq (dv 0)) ⟨rfl, of_decide_eq_true (by kernel_rfl), of_decide_eq_true (by kernel_rfl), of_decide_eq_true (by kernel_rfl), of_decide_eq_true (by kernel_rfl)⟩ (dgc_name 2 (by decide) fun _ _ _ _ _ => pg_name (i := 2) S.nd rfl (.inl rfl)) (fun _ _ _ _ _ => dts_nil) (fun _ _ _ _ _ => (de_cmp (od_eq hr.units) (de_slot k.a_Round_own_threads (dv 2)) (dv 1)))) da_nil))) (de_call g_Run k.g_Run hr (da_cons (dv 1) (da_cons (dv 0) da_nil))) de_non))))), hp⟩)
    (F.bindsN fun _ _ _ _ _ _ us hl => match us, hl with | [_], _ => rfl)

end W82
set_option Elab.async false
set_option linter.all false
set_option maxRecDepth 100000
set_option maxHeartbeats 4000000
namespace W82
open PySem PySem.Spec PyProof.Rows L2 SlX DL FN
theorem wk_read_run {w : World} {K : PySem.W.Frag} {mg : Str → Option Value} {base h : Heap} (k : Kn K mg base h) {sp s_require_text s_require_pieces s_are_number_texts s_numbers_in s_are_threads m_Run s_is_round_text s_made_run s_made_round s_require_found : DRs} (gh_require_text : GD PG w K mg base 1 (ga K "require_text") s_require_text) (gh_are_number_texts : GD PG w K mg base 2 (ga K "are_number_texts") s_are_number_texts) (gh_require_pieces : GD PG w K mg base 1 (ga K "require_pieces") s_require_pieces) (gh_numbers_in : GD PG w K mg base 1 (ga K "numbers_in") s_numbers_in) (gh_are_threads : GD PG w K mg base 4 (ga K "are_threads") s_are_threads) (g_Run : GD PG w K mg base 7 (ga K "Run") m_Run) (gh_is_round_text : GD PG w K mg base 3 (ga K "is_round_text") s_is_round_text) (gh_made_round : GD PG w K mg base 8 (ga K "made_round") s_made_round) (gh_made_run : GD PG w K mg base 8 (ga K "made_run") s_made_run) (gh_require_found : GD PG w K mg base 1 (ga K "require_found") s_require_found) (hl : ∀ ds m R, sp ds m R → ds.length = 1) (hp : ∀ ds m R, sp ds m R → T_read_run K s_require_text s_require_pieces s_are_number_texts s_numbers_in s_are_threads m_Run s_is_round_text s_made_run s_made_round s_require_found (endsD m R) (startD ["text", "threads", "found", "pieces", "piece"] ds) m) :
    FnD PG w K mg base 9 (ga K "read_run") sp := by
  obtain ⟨fd, F⟩ := k.c.d 26
  have S : FnScope ["text", "threads", "found", "pieces", "piece"] ["text"] (defScope (topOf PG 59)) := ⟨rfl, rfl, rfl, by decide +kernel, rfl, by decide +kernel, by decide +kernel⟩
  exact FnOk.pos (fn_body F S hl fun cdv A outer s H E hr => ⟨T_read_run K s_require_text s_require_pieces s_are_number_texts s_numbers_in s_are_threads m_Run s_is_round_text s_made_run s_made_round s_require_found, (ds_cons (dst_expr (de_call gh_require_text k.g_require_text hr (da_cons (dv 0) da_nil)))
    (ds_cons (dst_if (dt_cmp od_eqS (de_slice (dv 0) do_none (do_some (de_callB cd_len k.f_len b_len (da_cons (de_gstr k.s_NONE) da_nil)))) (de_gstr k.s_NONE)) (ds_cons (dst_expr (de_call gh_require_pieces k.g_require_pieces hr (da_cons (de_lst (da_cons (de_call gh_are_number_texts k.g_are_number_texts hr (da_cons (de_slice (dv 0) (do_some (de_callB cd_len k.f_len b_len (da_cons (de_gstr k.s_NONE) da_nil))) do_none) da_nil)) da_nil)) da_nil)))
    (ds_cons (dst_set 1 S.nd (de_call gh_numbers_in k.g_numbers_in hr (da_cons (de_slice (dv 0) (do_some (de_callB cd_len k.f_len b_len (da_cons (de_gstr k.s_NONE) da_nil))) do_none) da_nil)))
    (ds_one (dst_set 2 S.nd (de_if (dt_val (de_call gh_are_threads k.g_are_threads hr (da_cons (dv 1) da_nil))) (de_call g_Run k.g_Run hr (da_cons (dv 1) (da_cons (de_tup da_nil) da_nil))) de_non))))) (ds_cons (dst_set 3 S.nd (de_bm md_split (dv 0) (da_cons (de_gstr k.s_COMMA) da_nil) PySem.F.plainAttrs_str PySem.F.slot_str_split rfl))
    (ds_cons (dst_expr (de_call gh_require_pieces k.g_require_pieces hr (da_cons (de_lc (own := [("piece", 4)]) rfl S.nd (di_seq (dv 3)) ⟨rfl, of_decide_eq_true (by kernel_rfl), of_decide_eq_true (by kernel_rfl), of_decide_eq_true (by kernel_rfl), of_decide_eq_true (by kernel_rfl)⟩ (dgc_name 4 (by decide) fun _ _ _ _ _ => pg_name (i := 4) S.nd rfl (.inl rfl)) (fun _ _ _ _ _ => dts_nil) (fun _ _ _ _ _ => (de_call gh_is_round_text k.g_is_round_text hr (da_cons (dv 4) da_nil)))) da_nil)))
    (ds_one (dst_set 2 S.nd (de_call gh_made_run k.g_made_run hr (da_cons (de_callTy cd_tuple k.f_tuple b_tuple (da_cons (de_lc (own := [("piece", 4)]) rfl S.nd (di_seq (dv 3)) ⟨rfl, of_decide_eq_true (by kernel_rfl), of_decide_eq_true (by kernel_rfl), of_decide_eq_true (by kernel_rfl), of_decide_eq_true (by kernel_rfl)⟩ (dgc_name 4 (by decide) fun _ _ _ _ _ => pg_name (i := 4) S.nd rfl (.inl rfl)) (fun _ _ _ _ _ => dts_nil) (fun _ _ _ _ _ => (de_call gh_made_round k.g_made_round hr (da_cons (dv 4) da_nil)))) da_nil)) da_nil)))))))
    (ds_cons (dst_expr (de_call gh_require_found k.g_require_found hr (da_cons (dv 2) da_nil)))
    (ds_one (dst_ret (dv 2)))))), hp⟩)
    (F.bindsN fun _ _ _ _ _ _ us hl => match us, hl with | [_], _ => rfl)

theorem wk__law_filled {w : World} {K : PySem.W.Frag} {mg : Str → Option Value} {base h : Heap} (k : Kn K mg base h) {sp : DRs}  (hl : ∀ ds m R, sp ds m R → ds.length = 2) (hp : ∀ ds m R, sp ds m R → T__law_filled K (endsD m R) (startD ["script", "at", "cell", "whole", "mixed"] ds) m) :
    FnD PG w K mg base 1 (ga K "_law_filled") sp := by
  obtain ⟨fd, F⟩ := k.c.d 27
  have S : FnScope ["script", "at", "cell", "whole", "mixed"] ["script", "at"] (defScope (topOf PG 61)) := ⟨rfl, rfl, rfl, by decide +kernel, rfl, by decide +kernel, by decide +kernel⟩
  exact FnOk.pos (fn_body F S hl fun cdv A outer s H E hr => ⟨T__law_filled K, (ds_cons (dst_set 2 S.nd (de_if (dt_cmp od_lt (dv 1) (de_callB cd_len k.f_len b_len (da_cons (dv 0) da_nil))) (de_ix (dv 0) (dv 1)) (de_op od_add (de_op od_mulI de_int (dv 1)) de_int)))
    (ds_cons (dst_set 3 S.nd (de_op od_mod (de_callTy cd_int k.f_int b_int (da_cons (de_callB cd_abs k.f_abs b_abs (da_cons (dv 2) da_nil)) da_nil)) (de_op od_powW (de_op od_powW de_int de_int) de_int)))
    (ds_cons (dst_set 4 S.nd (de_op od_mod (de_callTy cd_int k.f_int b_int (da_cons (de_op od_add (de_op od_add (de_op od_add (dv 3) (de_op od_mulI de_int (dv 1))) (de_op od_mulI de_int (de_callTy cd_int k.f_int b_int (da_cons (de_cmp od_lt (dv 2) de_int) da_nil)))) de_int) da_nil)) de_int))
    (ds_one (dst_ret (de_lstM (da_cons (de_callB (cd_max rfl) k.f_max b_max (da_cons de_int (da_cons (de_op od_sub (dv 3) (de_op od_powW de_int de_int)) da_nil))) (da_cons (dv 4) (da_cons de_int da_nil))))))))), hp⟩)
    (F.bindsN fun _ _ _ _ _ _ us hl => match us, hl with | [_, _], _ => rfl)

theorem wk__law_dip {w : World} {K : PySem.W.Frag} {mg : Str → Option Value} {base h : Heap} (k : Kn K mg base h) {sp : DRs}  (hl : ∀ ds m R, sp ds m R → ds.length = 2) (hp : ∀ ds m R, sp ds m R → T__law_dip K (endsD m R) (startD ["pot", "total", "found", "one", "two"] ds) m) :
    FnD PG w K mg base 1 (ga K "_law_dip") sp := by
  obtain ⟨fd, F⟩ := k.c.d 28
  have S : FnScope ["pot", "total", "found", "one", "two"] ["pot", "total"] (defScope (topOf PG 62)) := ⟨rfl, rfl, rfl, by decide +kernel, rfl, by decide +kernel, by decide +kernel⟩
  exact FnOk.pos (fn_body F S hl fun cdv A outer s H E hr => ⟨T__law_dip K, (ds_cons (dst_if (dt_cmp od_gt (de_ix (dv 0) de_int) de_int) (ds_cons (dst_set 2 S.nd (de_op od_mod (de_callTy cd_int k.f_int b_int (da_cons (de_ix (dv 0) de_int) da_nil)) (dv 1)))
    (ds_cons (dst_setIx (dv 0) de_int (de_op od_fdiv (de_ix (dv 0) de_int) (dv 1)))
    (ds_one (dst_ret (dv 2))))) ds_nil)
    (ds_cons (dst_setIx (dv 0) de_int (de_op od_add (de_ix (dv 0) de_int) de_int))
    (ds_cons (dst_set 3 S.nd (de_op od_mod (de_callTy cd_int k.f_int b_int (da_cons (de_op od_add (de_op od_mulI (de_ix (dv 0) de_int) de_int) (de_op od_mulI (de_ix (dv 0) de_int) de_int)) da_nil)) de_int))
    (ds_cons (dst_set 4 S.nd (de_op od_mod (de_callTy cd_int k.f_int b_int (da_cons (de_op od_add (de_op od_mulI (dv 3) (dv 3)) (de_op od_mulI de_int (de_ix (dv 0) de_int))) da_nil)) de_int))
    (ds_one (dst_ret (de_op od_mod (de_callTy cd_int k.f_int b_int (da_cons (de_op od_fdiv (de_op od_mod (de_callTy cd_int k.f_int b_int (da_cons (de_op od_add (de_op od_mulI (dv 4) de_int) (dv 3)) da_nil)) de_int) de_int) da_nil)) (dv 1)))))))), hp⟩)
    (F.bindsN fun _ _ _ _ _ _ us hl => match us, hl with | [_, _], _ => rfl)

theorem wk__law_choose {w : World} {K : PySem.W.Frag} {mg : Str → Option Value} {base h : Heap} (k : Kn K mg base h) {sp s__law_dip : DRs} (gh__law_dip : GD PG w K mg base 1 (ga K "_law_dip") s__law_dip) (hl : ∀ ds m R, sp ds m R → ds.length = 2) (hp : ∀ ds m R, sp ds m R → T__law_choose K s__law_dip (endsD m R) (startD ["pot", "items"] ds) m) :
    FnD PG w K mg base 2 (ga K "_law_choose") sp := by
  obtain ⟨fd, F⟩ := k.c.d 29
  have S : FnScope ["pot", "items"] ["pot", "items"] (defScope (topOf PG 63)) := ⟨rfl, rfl, rfl, by decide +kernel, rfl, by decide +kernel, by decide +kernel⟩
  exact FnOk.pos (fn_body F S hl fun cdv A outer s H E hr => ⟨T__law_choose K s__law_dip, (ds_one (dst_ret (de_ix (dv 1) (de_call gh__law_dip k.g__law_dip hr (da_cons (dv 0) (da_cons (de_callB cd_len k.f_len b_len (da_cons (dv 1) da_nil)) da_nil)))))), hp⟩)
    (F.bindsN fun _ _ _ _ _ _ us hl => match us, hl with | [_, _], _ => rfl)

theorem wk__law_shuffled {w : World} {K : PySem.W.Frag} {mg : Str → Option Value} {base h : Heap} (k : Kn K mg base h) {sp s__law_dip : DRs} (gh__law_dip : GD PG w K mg base 1 (ga K "_law_dip") s__law_dip) (hl : ∀ ds m R, sp ds m R → ds.length = 2) (hp : ∀ ds m R, sp ds m R → T__law_shuffled K s__law_dip (endsD m R) (startD ["pot", "items", "left", "turn"] ds) m) :
    FnD PG w K mg base 2 (ga K "_law_shuffled") sp := by
  obtain ⟨fd, F⟩ := k.c.d 30
  have S : FnScope ["pot", "items", "left", "turn"] ["pot", "items"] (defScope (topOf PG 64)) := ⟨rfl, rfl, rfl, by decide +kernel, rfl, by decide +kernel, by decide +kernel⟩
  exact FnOk.pos (fn_body F S hl fun cdv A outer s H E hr => ⟨T__law_shuffled K s__law_dip, (ds_cons (dst_set 2 S.nd (de_callTy cd_listM k.f_list b_list (da_cons (dv 1) da_nil)))
    (ds_one (dst_ret (de_lc (own := [("turn", 3)]) rfl S.nd (di_range1 k.f_range (da_cons (de_callB cd_len k.f_len b_len (da_cons (dv 1) da_nil)) da_nil)) ⟨rfl, of_decide_eq_true (by kernel_rfl), of_decide_eq_true (by kernel_rfl), of_decide_eq_true (by kernel_rfl), of_decide_eq_true (by kernel_rfl)⟩ (dgc_name 3 (by decide) fun _ _ _ _ _ => pg_name (i := 3) S.nd rfl (.inl rfl)) (fun _ _ _ _ _ => dts_nil) (fun _ _ _ _ _ => (de_bm md_popAt (dv 2) (da_cons (de_call gh__law_dip k.g__law_dip hr (da_cons (dv 0) (da_cons (de_callB cd_len k.f_len b_len (da_cons (dv 2) da_nil)) da_nil))) da_nil) PySem.F.plainAttrs_list PySem.F.slot_list_pop rfl)))))), hp⟩)
    (F.bindsN fun _ _ _ _ _ _ us hl => match us, hl with | [_, _], _ => rfl)

theorem wk__law_old_names {w : World} {K : PySem.W.Frag} {mg : Str → Option Value} {base h : Heap} (k : Kn K mg base h) {sp s__law_choose s__law_dip : DRs} (gh__law_choose : GD PG w K mg base 2 (ga K "_law_choose") s__law_choose) (gh__law_dip : GD PG w K mg base 1 (ga K "_law_dip") s__law_dip) (hl : ∀ ds m R, sp ds m R → ds.length = 2) (hp : ∀ ds m R, sp ds m R → T__law_old_names K s__law_choose s__law_dip (endsD m R) (startD ["pot", "size", "wide", "turn"] ds) m) :
    FnD PG w K mg base 3 (ga K "_law_old_names") sp := by
  obtain ⟨fd, F⟩ := k.c.d 31
  have S : FnScope ["pot", "size", "wide", "turn"] ["pot", "size"] (defScope (topOf PG 65)) := ⟨rfl, rfl, rfl, by decide +kernel, rfl, by decide +kernel, by decide +kernel⟩
  exact FnOk.pos (fn_body F S hl fun cdv A outer s H E hr => ⟨T__law_old_names K s__law_choose s__law_dip, (ds_cons (dst_set 2 S.nd (de_call gh__law_choose k.g__law_choose hr (da_cons (dv 0) (da_cons (de_lst (da_cons de_int (da_cons de_int (da_cons de_int (da_cons (de_op od_powW de_int de_int) (da_cons (de_op od_powW de_int de_int) da_nil)))))) da_nil))))
    (ds_one (dst_ret (de_callTy cd_tuple k.f_tuple b_tuple (da_cons (de_lc (own := [("turn", 3)]) rfl S.nd (di_range1 k.f_range (da_cons (dv 1) da_nil)) ⟨rfl, of_decide_eq_true (by kernel_rfl), of_decide_eq_true (by kernel_rfl), of_decide_eq_true (by kernel_rfl), of_decide_eq_true (by kernel_rfl)⟩ (dgc_name 3 (by decide) fun _ _ _ _ _ => pg_name (i := 3) S.nd rfl (.inl rfl)) (fun _ _ _ _ _ => dts_nil) (fun _ _ _ _ _ => (de_op od_add (de_call gh__law_dip k.g__law_dip hr (da_cons (dv 0) (da_cons (dv 2) da_nil))) (de_op od_mulI (dv 3) (dv 2))))) da_nil))))), hp⟩)
    (F.bindsN fun _ _ _ _ _ _ us hl => match us, hl with | [_, _], _ => rfl)

theorem wk__law_blocks {w : World} {K : PySem.W.Frag} {mg : Str → Option Value} {base h : Heap} (k : Kn K mg base h) {sp s__law_shuffled s__law_choose s__law_dip : DRs} (gh__law_shuffled : GD PG w K mg base 2 (ga K "_law_shuffled") s__law_shuffled) (gh__law_choose : GD PG w K mg base 2 (ga K "_law_choose") s__law_choose) (gh__law_dip : GD PG w K mg base 1 (ga K "_law_dip") s__law_dip) (hl : ∀ ds m R, sp ds m R → ds.length = 2) (hp : ∀ ds m R, sp ds m R → T__law_blocks K s__law_shuffled s__law_choose s__law_dip (endsD m R) (startD ["pot", "threads", "left", "found", "wide", "thread", "block"] ds) m) :
    FnD PG w K mg base 3 (ga K "_law_blocks") sp := by
  obtain ⟨fd, F⟩ := k.c.d 32
  have S : FnScope ["pot", "threads", "left", "found", "wide", "thread", "block"] ["pot", "threads"] (defScope (topOf PG 66)) := ⟨rfl, rfl, rfl, by decide +kernel, rfl, by decide +kernel, by decide +kernel⟩
  exact FnOk.pos (fn_body F S hl fun cdv A outer s H E hr => ⟨T__law_blocks K s__law_shuffled s__law_choose s__law_dip, (ds_cons (dst_par 2 3 rfl S.nd (da_cons (de_call gh__law_shuffled k.g__law_shuffled hr (da_cons (dv 0) (da_cons (de_callTy cd_list k.f_list b_list (da_cons (dv 1) da_nil)) da_nil))) (da_cons (de_lstM da_nil) da_nil)))
    (ds_cons (dst_set 4 S.nd (de_call gh__law_choose k.g__law_choose hr (da_cons (dv 0) (da_cons (de_lst (da_cons de_int (da_cons de_int (da_cons de_int (da_cons de_int da_nil))))) da_nil))))
    (ds_cons (dst_for .never rfl (di_seq (dv 2)) (dg_name 5 S.nd) (ds_one (dst_if (DW.dt (dw_or (dt_cmp (od_eqNil hr.units0) (dv 3) (de_lst da_nil)) (dw_or1 (dt_cmp (od_eq hr.units) (de_call gh__law_dip k.g__law_dip hr (da_cons (dv 0) (da_cons (dv 4) da_nil))) de_int)))) (ds_one (dst_expr (de_bm md_append (dv 3) (da_cons (de_lstM (da_cons (dv 5) da_nil)) da_nil) PySem.F.plainAttrs_list PySem.F.slot_list_append rfl))) (ds_one (dst_expr (de_bm md_append (de_ix (dv 3) (de_un ud_neg de_int)) (da_cons (dv 5) da_nil) PySem.F.plainAttrs_list PySem.F.slot_list_append rfl))))))
    (ds_one (dst_ret (de_callTy cd_tuple k.f_tuple b_tuple (da_cons (de_lc (own := [("block", 6)]) rfl S.nd (di_seq (dv 3)) ⟨rfl, of_decide_eq_true (by kernel_rfl), of_decide_eq_true (by kernel_rfl), of_decide_eq_true (by kernel_rfl), of_decide_eq_true (by kernel_rfl)⟩ (dgc_name 6 (by decide) fun _ _ _ _ _ => pg_name (i := 6) S.nd rfl (.inl rfl)) (fun _ _ _ _ _ => dts_nil) (fun _ _ _ _ _ => (de_callTy cd_tuple k.f_tuple b_tuple (da_cons (de_callB cd_sortI k.f_sorted b_sorted (da_cons (dv 6) da_nil)) da_nil)))) da_nil))))))), hp⟩)
    (F.bindsN fun _ _ _ _ _ _ us hl => match us, hl with | [_, _], _ => rfl)

theorem wk__law_standing {w : World} {K : PySem.W.Frag} {mg : Str → Option Value} {base h : Heap} (k : Kn K mg base h) {sp s_Table_running s_Table_names s_Table_places s_write_run s_Table_run s_Table___str__ s_Table___len__ s_Table___bool__ : DRs} (h_Table_running : FnD PG w K mg base 1 (prA K "Table" "running") s_Table_running) (h_Table_names : FnD PG w K mg base 1 (prA K "Table" "names") s_Table_names) (h_Table_places : FnD PG w K mg base 1 (prA K "Table" "places") s_Table_places) (h_Table_run : FnD PG w K mg base 1 (prA K "Table" "run") s_Table_run) (gh_write_run : GD PG w K mg base 5 (ga K "write_run") s_write_run) (h_Table___str__ : FnD PG w K mg base 1 (ma K (ga K "Table") "__str__") s_Table___str__) (h_Table___len__ : FnD PG w K mg base 1 (ma K (ga K "Table") "__len__") s_Table___len__) (h_Table___bool__ : FnD PG w K mg base 1 (ma K (ga K "Table") "__bool__") s_Table___bool__) (hl : ∀ ds m R, sp ds m R → ds.length = 1) (hp : ∀ ds m R, sp ds m R → T__law_standing K s_Table_running s_Table_names s_Table_places s_write_run s_Table_run s_Table___str__ s_Table___len__ s_Table___bool__ (endsD m R) (startD ["table", "told"] ds) m) :
    FnG PG w K mg base 6 (ga K "_law_standing") sp := by
  obtain ⟨fd, F⟩ := k.c.d 33
  have S : FnScope ["table", "told"] ["table"] (defScope (topOf PG 67)) := ⟨rfl, rfl, rfl, by decide +kernel, rfl, by decide +kernel, by decide +kernel⟩
  exact FnOkG.pos (fn_bodyG F S hl fun cdv A outer s H hr hgu => ⟨T__law_standing K s_Table_running s_Table_names s_Table_places s_write_run s_Table_run s_Table___str__ s_Table___len__ s_Table___bool__, (ds_cons (dst_set 1 S.nd (de_lst (da_cons (de_prop k.p_Table_running h_Table_running hr (dv 0)) (da_cons (de_items (de_prop k.p_Table_names h_Table_names hr (dv 0)) k.f_list) (da_cons (de_items (de_prop k.p_Table_places h_Table_places hr (dv 0)) k.f_list) (da_cons (de_call gh_write_run k.g_write_run hr (da_cons (de_prop k.p_Table_run h_Table_run hr (dv 0)) da_nil)) da_nil))))))
    (ds_one (dst_ret (de_callB (cd_repr hgu hr) k.f_repr b_repr (da_cons (de_op od_add (dv 1) (de_lst (da_cons (de_callTy (cd_strOwn k.sp_Table___str__ h_Table___str__ hr) k.f_str b_str (da_cons (dv 0) da_nil)) (da_cons (de_callB (cd_lenOwn k.sp_Table___len__ h_Table___len__ hr) k.f_len b_len (da_cons (dv 0) da_nil)) (da_cons (de_callTy (cd_boolOwn k.sp_Table___bool__ h_Table___bool__ hr) k.f_bool b_bool (da_cons (dv 0) da_nil)) da_nil))))) da_nil))))), hp⟩)
    (F.bindsN fun _ _ _ _ _ _ us hl => match us, hl with | [_], _ => rfl) hl

theorem wk__law_replayed_right {w : World} {K : PySem.W.Frag} {mg : Str → Option Value} {base h : Heap} (k : Kn K mg base h) {sp s_read_run s_write_run s_Table_run s_Run___eq__ m_Table s_Table_threads s_Run___len__ s_Table_go s_Run___getitem__ s_Table___len__ s_Table_running s_Table_names s_Table_places : DRs} (h_Table_run : FnD PG w K mg base 1 (prA K "Table" "run") s_Table_run) (gh_write_run : GD PG w K mg base 5 (ga K "write_run") s_write_run) (gh_read_run : GD PG w K mg base 9 (ga K "read_run") s_read_run) (h_Run___eq__ : FnD PG w K mg base 3 (ma K (ga K "Run") "__eq__") s_Run___eq__) (g_Table : GD PG w K mg base 9 (ga K "Table") m_Table) (h_Table_threads : FnD PG w K mg base 1 (prA K "Table" "threads") s_Table_threads) (h_Run___len__ : FnD PG w K mg base 1 (ma K (ga K "Run") "__len__") s_Run___len__) (gh_Table_go : GD PG w K mg base 8 (ma K (ga K "Table") "go") s_Table_go) (h_Run___getitem__ : FnD PG w K mg base 3 (ma K (ga K "Run") "__getitem__") s_Run___getitem__) (h_Table___len__ : FnD PG w K mg base 1 (ma K (ga K "Table") "__len__") s_Table___len__) (h_Table_running : FnD PG w K mg base 1 (prA K "Table" "running") s_Table_running) (h_Table_names : FnD PG w K mg base 1 (prA K "Table" "names") s_Table_names) (h_Table_places : FnD PG w K mg base 1 (prA K "Table" "places") s_Table_places) (hl : ∀ ds m R, sp ds m R → ds.length = 1) (hp : ∀ ds m R, sp ds m R → T__law_replayed_right K s_read_run s_write_run s_Table_run s_Run___eq__ m_Table s_Table_threads s_Run___len__ s_Table_go s_Run___getitem__ s_Table___len__ s_Table_running s_Table_names s_Table_places (endsD m R) (startD ["table", "run", "other", "place", "thread"] ds) m) :
    FnD PG w K mg base 10 (ga K "_law_replayed_right") sp := by
  obtain ⟨fd, F⟩ := k.c.d 34
  have S : FnScope ["table", "run", "other", "place", "thread"] ["table"] (defScope (topOf PG 68)) := ⟨rfl, rfl, rfl, by decide +kernel, rfl, by decide +kernel, by decide +kernel⟩
  exact FnOk.pos (fn_body F S hl fun cdv A outer s H E hr => ⟨T__law_replayed_right K s_read_run s_write_run s_Table_run s_Run___eq__ m_Table s_Table_threads s_Run___len__ s_Table_go s_Run___getitem__ s_Table___len__ s_Table_running s_Table_names s_Table_places, (ds_cons (dst_set 1 S.nd (de_call gh_read_run k.g_read_run hr (da_cons (de_call gh_write_run k.g_write_run hr (da_cons (de_prop k.p_Table_run h_Table_run hr (dv 0)) da_nil)) da_nil)))
    (ds_cons (dst_if (dt_cmp (od_ownNe k.eq_Run h_Run___eq__ hr) (dv 1) (de_prop k.p_Table_run h_Table_run hr (dv 0))) (ds_one (dst_ret de_bl)) ds_nil)
    (ds_cons (dst_set 2 S.nd (de_call g_Table k.g_Table hr (da_cons (de_prop k.p_Table_threads h_Table_threads hr (dv 0)) da_nil)))
    (ds_cons (dst_for .never rfl (di_range1 k.f_range (da_cons (de_callB (cd_lenOwn k.sp_Run___len__ h_Run___len__ hr) k.f_len b_len (da_cons (dv 1) da_nil)) da_nil)) (dg_name 3 S.nd) (ds_one (dst_expr (de_methI k.c_Table k.m_Table_go gh_Table_go hr (dv 2) (da_cons (de_ownIx k.sp_Run___getitem__ k.fn_Run___getitem__ h_Run___getitem__ hr (dv 1) (dv 3)) da_nil)))))
    (ds_cons (dst_if (DW.dt (dw_or (dt_cmp (od_ownNe k.eq_Run h_Run___eq__ hr) (de_prop k.p_Table_run h_Table_run hr (dv 2)) (dv 1)) (dw_or (dt_cmp (od_ne hr.units) (de_callB (cd_lenOwn k.sp_Table___len__ h_Table___len__ hr) k.f_len b_len (da_cons (dv 2) da_nil)) (de_callB (cd_lenOwn k.sp_Table___len__ h_Table___len__ hr) k.f_len b_len (da_cons (dv 0) da_nil))) (dw_or1 (dt_cmp (od_ne hr.units) (de_prop k.p_Table_running h_Table_running hr (dv 2)) (de_prop k.p_Table_threads h_Table_threads hr (dv 0))))))) (ds_one (dst_ret de_bl)) ds_nil)
    (ds_cons (dst_for .never rfl (di_seq (de_prop k.p_Table_running h_Table_running hr (dv 0))) (dg_name 4 S.nd) (ds_cons (dst_if (dt_cmp (od_ne hr.units) (de_dget (units1 hr) (de_prop k.p_Table_names h_Table_names hr (dv 2)) (dv 4)) (de_dget (units1 hr) (de_prop k.p_Table_names h_Table_names hr (dv 0)) (dv 4))) (ds_one (dst_ret de_bl)) ds_nil)
    (ds_one (dst_if (dt_cmp (od_ne hr.units) (de_dget2 (units1 hr) (de_prop k.p_Table_places h_Table_places hr (dv 2)) (dv 4) de_non) (de_dget2 (units1 hr) (de_prop k.p_Table_places h_Table_places hr (dv 0)) (dv 4) de_non)) (ds_one (dst_ret de_bl)) ds_nil))))
    (ds_one (dst_ret de_bl)))))))), hp⟩)
    (F.bindsN fun _ _ _ _ _ _ us hl => match us, hl with | [_], _ => rfl)

theorem wk__law_finished_right {w : World} {K : PySem.W.Frag} {mg : Str → Option Value} {base h : Heap} (k : Kn K mg base h) {sp s_Table_twin s__law_choose s_Table_finish s__law_standing s_Table___len__ s__law_replayed_right s_Table_undo s_Table_running s_Table___eq__ s_Table_go m_Round : DRs} (gh_Table_twin : GD PG w K mg base 10 (ma K (ga K "Table") "twin") s_Table_twin) (gh__law_choose : GD PG w K mg base 2 (ga K "_law_choose") s__law_choose) (h__law_standing : FnG PG w K mg base 6 (ga K "_law_standing") s__law_standing) (h_Table___len__ : FnD PG w K mg base 1 (ma K (ga K "Table") "__len__") s_Table___len__) (gh__law_replayed_right : GD PG w K mg base 10 (ga K "_law_replayed_right") s__law_replayed_right) (h_Table_running : FnD PG w K mg base 1 (prA K "Table" "running") s_Table_running) (h_Table___eq__ : FnD PG w K mg base 4 (ma K (ga K "Table") "__eq__") s_Table___eq__) (gh_Table_go : GD PG w K mg base 8 (ma K (ga K "Table") "go") s_Table_go) (g_Round : GD PG w K mg base 7 (ga K "Round") m_Round) {fd_k_Table_finish : FuncData} (k_Table_finish : FnOk PG w K mg base CX0 9 (ma K (ga K "Table") "finish") fd_k_Table_finish ["self", "joint"] (spD K s_Table_finish)) (kk_Table_finish : KBn K fd_k_Table_finish ["self", "joint"] 1 ["joint"] (fun us ws => us ++ ws) (fun vs zs => vs ++ zs)) {fd_k_Table_undo : FuncData} (k_Table_undo : FnOk PG w K mg base CX0 2 (ma K (ga K "Table") "undo") fd_k_Table_undo ["self", "many"] (spD K s_Table_undo)) (kk_Table_undo : KBn K fd_k_Table_undo ["self", "many"] 1 ["many"] (fun us ws => us ++ ws) (fun vs zs => vs ++ zs)) (hl : ∀ ds m R, sp ds m R → ds.length = 2) (hp : ∀ ds m R, sp ds m R → T__law_finished_right K s_Table_twin s__law_choose s_Table_finish s__law_standing s_Table___len__ s__law_replayed_right s_Table_undo s_Table_running s_Table___eq__ s_Table_go m_Round (endsD m R) (startD ["pot", "table", "twin", "joint", "more", "last", "end", "turn", "thread"] ds) m) :
    FnG PG w K mg base 11 (ga K "_law_finished_right") sp := by
  obtain ⟨fd, F⟩ := k.c.d 35
  have S : FnScope ["pot", "table", "twin", "joint", "more", "last", "end", "turn", "thread"] ["pot", "table"] (defScope (topOf PG 69)) := ⟨rfl, rfl, rfl, by decide +kernel, rfl, by decide +kernel, by decide +kernel⟩
  exact FnOkG.pos (fn_bodyG F S hl fun cdv A outer s H hr hgu => ⟨T__law_finished_right K s_Table_twin s__law_choose s_Table_finish s__law_standing s_Table___len__ s__law_replayed_right s_Table_undo s_Table_running s_Table___eq__ s_Table_go m_Round, (ds_cons (dst_par 2 3 rfl S.nd (da_cons (de_methI0 k.c_Table k.m_Table_twin gh_Table_twin hr (dv 1)) (da_cons (de_call gh__law_choose k.g__law_choose hr (da_cons (dv 0) (da_cons (de_lst (da_cons de_bl (da_cons de_bl da_nil))) da_nil))) da_nil)))
    (ds_cons (dst_par 4 5 rfl S.nd (da_cons (de_methKI k.c_Table k.m_Table_finish k_Table_finish kk_Table_finish hr (dv 2) (dv 3)) (da_cons (de_callG h__law_standing k.kp__law_standing hgu k.g__law_standing hr (da_cons (dv 1) da_nil)) da_nil)))
    (ds_cons (dst_if (DW.dt (dw_or (dt_cmp (od_ne hr.units) (dv 4) (de_op od_sub (de_callB (cd_lenOwn k.sp_Table___len__ h_Table___len__ hr) k.f_len b_len (da_cons (dv 2) da_nil)) (de_callB (cd_lenOwn k.sp_Table___len__ h_Table___len__ hr) k.f_len b_len (da_cons (dv 1) da_nil)))) (dw_or1 (dt_not (dt_val (de_call gh__law_replayed_right k.g__law_replayed_right hr (da_cons (dv 2) da_nil))))))) (ds_one (dst_ret de_bl)) ds_nil)
    (ds_cons (dst_set 6 S.nd (de_callG h__law_standing k.kp__law_standing hgu k.g__law_standing hr (da_cons (dv 2) da_nil)))
    (ds_cons (dst_if (DW.dt (dw_or (dt_cmp (od_ne hr.units) (de_methKI k.c_Table k.m_Table_undo k_Table_undo kk_Table_undo hr (dv 2) (dv 4)) (de_prop k.p_Table_running h_Table_running hr (dv 1))) (dw_or (dt_cmp (od_ownNe k.eq_Table h_Table___eq__ hr) (dv 2) (dv 1)) (dw_or1 (dt_cmp od_neS (de_callG h__law_standing k.kp__law_standing hgu k.g__law_standing hr (da_cons (dv 2) da_nil)) (dv 5)))))) (ds_one (dst_ret de_bl)) ds_nil)
    (ds_cons (dst_for .never rfl (di_range1 k.f_range (da_cons (dv 4) da_nil)) (dg_name 7 S.nd) (ds_one (dst_expr (de_methI k.c_Table k.m_Table_go gh_Table_go hr (dv 2) (da_cons (de_call g_Round k.g_Round hr (da_cons (de_if (dt_val (dv 3)) (de_tup (da_cons (de_prop k.p_Table_running h_Table_running hr (dv 2)) da_nil)) (de_callTy cd_tuple k.f_tuple b_tuple (da_cons (de_lc (own := [("thread", 8)]) rfl S.nd (di_seq (de_prop k.p_Table_running h_Table_running hr (dv 2))) ⟨rfl, of_decide_eq_true (by kernel_rfl), of_decide_eq_true (by kernel_rfl), of_decide_eq_true (by kernel_rfl), of_decide_eq_true (by kernel_rfl)⟩ (dgc_name 8 (by decide) fun _ _ _ _ _ => pg_name (i := 8) S.nd rfl (.inl rfl)) (fun _ _ _ _ _ => dts_nil) (fun _ _ _ _ _ => (de_tup (da_cons (dv 8) da_nil)))) da_nil))) da_nil)) da_nil)))))
    (ds_one (dst_ret (de_and (de_cmp od_eqS (de_callG h__law_standing k.kp__law_standing hgu k.g__law_standing hr (da_cons (dv 2) da_nil)) (dv 6)) (de_one (de_cmp od_eqS (de_callG h__law_standing k.kp__law_standing hgu k.g__law_standing hr (da_cons (dv 1) da_nil)) (dv 5)))))))))))), hp⟩)
    (F.bindsN fun _ _ _ _ _ _ us hl => match us, hl with | [_, _], _ => rfl) hl

theorem wk__law_right {w : World} {K : PySem.W.Frag} {mg : Str → Option Value} {base h : Heap} (k : Kn K mg base h) {sp m_Table s__law_old_names s__law_dip s__law_standing s_Table_undo s_Table_running s_Table_stop s__law_choose s_Table___len__ s_Table_go m_Round s__law_blocks s__law_replayed_right s__law_finished_right s_Table_undo0 s_Table___eq__ s_Table_threads : DRs} (g_Table : GD PG w K mg base 9 (ga K "Table") m_Table) (gh__law_dip : GD PG w K mg base 1 (ga K "_law_dip") s__law_dip) (gh__law_old_names : GD PG w K mg base 3 (ga K "_law_old_names") s__law_old_names) (h__law_standing : FnG PG w K mg base 6 (ga K "_law_standing") s__law_standing) (h_Table_running : FnD PG w K mg base 1 (prA K "Table" "running") s_Table_running) (gh_Table_stop : GD PG w K mg base 4 (ma K (ga K "Table") "stop") s_Table_stop) (gh__law_choose : GD PG w K mg base 2 (ga K "_law_choose") s__law_choose) (h_Table___len__ : FnD PG w K mg base 1 (ma K (ga K "Table") "__len__") s_Table___len__) (gh_Table_go : GD PG w K mg base 8 (ma K (ga K "Table") "go") s_Table_go) (g_Round : GD PG w K mg base 7 (ga K "Round") m_Round) (gh__law_blocks : GD PG w K mg base 3 (ga K "_law_blocks") s__law_blocks) (gh__law_replayed_right : GD PG w K mg base 10 (ga K "_law_replayed_right") s__law_replayed_right) (h__law_finished_right : FnG PG w K mg base 11 (ga K "_law_finished_right") s__law_finished_right) (gh_Table_undo0 : GD PG w K mg base 2 (ma K (ga K "Table") "undo") s_Table_undo0) (h_Table_threads : FnD PG w K mg base 1 (prA K "Table" "threads") s_Table_threads) (h_Table___eq__ : FnD PG w K mg base 4 (ma K (ga K "Table") "__eq__") s_Table___eq__) {fd_k_Table_undo : FuncData} (k_Table_undo : FnOk PG w K mg base CX0 2 (ma K (ga K "Table") "undo") fd_k_Table_undo ["self", "many"] (spD K s_Table_undo)) (kk_Table_undo : KBn K fd_k_Table_undo ["self", "many"] 1 ["many"] (fun us ws => us ++ ws) (fun vs zs => vs ++ zs)) (hl : ∀ ds m R, sp ds m R → ds.length = 1) (hp : ∀ ds m R, sp ds m R → T__law_right K m_Table s__law_old_names s__law_dip s__law_standing s_Table_undo s_Table_running s_Table_stop s__law_choose s_Table___len__ s_Table_go m_Round s__law_blocks s__law_replayed_right s__law_finished_right s_Table_undo0 s_Table___eq__ s_Table_threads (endsD m R) (startD ["pot", "table", "past", "turn", "ahead", "way", "many", "elder"] ds) m) :
    FnG PG w K mg base 12 (ga K "_law_right") sp := by
  obtain ⟨fd, F⟩ := k.c.d 36
  have S : FnScope ["pot", "table", "past", "turn", "ahead", "way", "many", "elder"] ["pot"] (defScope (topOf PG 70)) := ⟨rfl, rfl, rfl, by decide +kernel, rfl, by decide +kernel, by decide +kernel⟩
  exact FnOkG.pos (fn_bodyG F S hl fun cdv A outer s H hr hgu => ⟨T__law_right K m_Table s__law_old_names s__law_dip s__law_standing s_Table_undo s_Table_running s_Table_stop s__law_choose s_Table___len__ s_Table_go m_Round s__law_blocks s__law_replayed_right s__law_finished_right s_Table_undo0 s_Table___eq__ s_Table_threads, (ds_cons (dst_set 1 S.nd (de_call g_Table k.g_Table hr (da_cons (de_call gh__law_old_names k.g__law_old_names hr (da_cons (dv 0) (da_cons (de_op od_add de_int (de_call gh__law_dip k.g__law_dip hr (da_cons (dv 0) (da_cons de_int da_nil)))) da_nil))) da_nil)))
    (ds_cons (dst_set 2 S.nd (de_lstM da_nil))
    (ds_cons (dst_for .never rfl (di_range1 k.f_range (da_cons (de_op od_add de_int (de_call gh__law_dip k.g__law_dip hr (da_cons (dv 0) (da_cons de_int da_nil)))) da_nil)) (dg_name 3 S.nd) (ds_cons (dst_par 4 5 rfl S.nd (da_cons (de_callG h__law_standing k.kp__law_standing hgu k.g__law_standing hr (da_cons (dv 1) da_nil)) (da_cons (de_call gh__law_dip k.g__law_dip hr (da_cons (dv 0) (da_cons de_int da_nil))) da_nil)))
    (ds_cons (dst_if (DW.dt (dw_and (dt_cmp (od_eq hr.units) (dv 5) de_int) (dw_and1 (dt_cmp (od_neNil hr.units0) (dv 2) (de_lst da_nil))))) (ds_cons (dst_set 6 S.nd (de_op od_add de_int (de_call gh__law_dip k.g__law_dip hr (da_cons (dv 0) (da_cons (de_callB cd_len k.f_len b_len (da_cons (dv 2) da_nil)) da_nil)))))
    (ds_cons (dst_expr (de_methKI k.c_Table k.m_Table_undo k_Table_undo kk_Table_undo hr (dv 1) (dv 6)))
    (ds_cons (dst_if (dt_cmp od_neS (de_callG h__law_standing k.kp__law_standing hgu k.g__law_standing hr (da_cons (dv 1) da_nil)) (de_ix (dv 2) (de_op od_sub (de_callB cd_len k.f_len b_len (da_cons (dv 2) da_nil)) (dv 6)))) (ds_one (dst_ret de_bl)) ds_nil)
    (ds_one (dst_set 2 S.nd (de_sliceM (dv 2) do_none (do_some (de_op od_sub (de_callB cd_len k.f_len b_len (da_cons (dv 2) da_nil)) (dv 6))))))))) (ds_one (dst_if (DW.dt (dw_and (dt_cmp od_lt (dv 5) de_int) (dw_and1 (dt_cmp od_gt (de_callB cd_len k.f_len b_len (da_cons (de_prop k.p_Table_running h_Table_running hr (dv 1)) da_nil)) de_int)))) (ds_cons (dst_expr (de_methI k.c_Table k.m_Table_stop gh_Table_stop hr (dv 1) (da_cons (de_call gh__law_choose k.g__law_choose hr (da_cons (dv 0) (da_cons (de_prop k.p_Table_running h_Table_running hr (dv 1)) da_nil))) da_nil)))
    (ds_one (dst_expr (de_bm md_append (dv 2) (da_cons (dv 4) da_nil) PySem.F.plainAttrs_list PySem.F.slot_list_append rfl)))) (ds_one (dst_if (dt_cmp od_lt (de_callB (cd_lenOwn k.sp_Table___len__ h_Table___len__ hr) k.f_len b_len (da_cons (dv 1) da_nil)) de_int) (ds_cons (dst_expr (de_methI k.c_Table k.m_Table_go gh_Table_go hr (dv 1) (da_cons (de_call g_Round k.g_Round hr (da_cons (de_call gh__law_blocks k.g__law_blocks hr (da_cons (dv 0) (da_cons (de_prop k.p_Table_running h_Table_running hr (dv 1)) da_nil))) da_nil)) da_nil)))
    (ds_one (dst_expr (de_bm md_append (dv 2) (da_cons (dv 4) da_nil) PySem.F.plainAttrs_list PySem.F.slot_list_append rfl)))) ds_nil)))))
    (ds_one (dst_if (dt_not (dt_val (de_call gh__law_replayed_right k.g__law_replayed_right hr (da_cons (dv 1) da_nil)))) (ds_one (dst_ret de_bl)) ds_nil)))))
    (ds_cons (dst_if (dt_not (dt_val (de_callG h__law_finished_right k.kp__law_finished_right hgu k.g__law_finished_right hr (da_cons (dv 0) (da_cons (dv 1) da_nil))))) (ds_one (dst_ret de_bl)) ds_nil)
    (ds_cons (dst_for .never rfl (di_seq (de_revL (dv 2))) (dg_name 7 S.nd) (ds_cons (dst_expr (de_methI0 k.c_Table k.m_Table_undo gh_Table_undo0 hr (dv 1)))
    (ds_one (dst_if (dt_cmp od_neS (de_callG h__law_standing k.kp__law_standing hgu k.g__law_standing hr (da_cons (dv 1) da_nil)) (dv 7)) (ds_one (dst_ret de_bl)) ds_nil))))
    (ds_one (dst_ret (de_and (de_cmp (od_ownEq k.eq_Table h_Table___eq__ hr) (dv 1) (de_call g_Table k.g_Table hr (da_cons (de_prop k.p_Table_threads h_Table_threads hr (dv 1)) da_nil))) (de_one (de_cmp (od_eq hr.units) (de_callB (cd_lenOwn k.sp_Table___len__ h_Table___len__ hr) k.f_len b_len (da_cons (dv 1) da_nil)) de_int)))))))))), hp⟩)
    (F.bindsN fun _ _ _ _ _ _ us hl => match us, hl with | [_], _ => rfl) hl

theorem wk_law {w : World} {K : PySem.W.Frag} {mg : Str → Option Value} {base h : Heap} (k : Kn K mg base h) {fd : FuncData} (F : FdA K (dfG "law" (topOf PG 71)) fd) {sp s__law_filled s__law_right : DRs} (gh__law_filled : GD PG w K mg base 1 (ga K "_law_filled") s__law_filled) (h__law_right : FnG PG w K mg base 12 (ga K "_law_right") s__law_right) (hl : ∀ ds m R, sp ds m R → ds.length = 1) (hp : ∀ ds m R, sp ds m R → T_law K s__law_filled s__law_right (endsD m R) (startD ["script", "at", "pot", "turn"] ds) m) :
    FnOkG PG w K mg base 13 (ga K "law") fd ["script"] sp := by
  have S : FnScope ["script", "at", "pot", "turn"] ["script"] (defScope (topOf PG 71)) := ⟨rfl, rfl, rfl, by decide +kernel, rfl, by decide +kernel, by decide +kernel⟩
  exact fn_bodyG F S hl fun cdv A outer s H hr hgu => ⟨T_law K s__law_filled s__law_right, (ds_cons (dst_for .never rfl (di_range1 k.f_range (da_cons (de_callB (cd_max rfl) k.f_max b_max (da_cons de_int (da_cons (de_callB (cd_min rfl) k.f_min b_min (da_cons de_int (da_cons (de_callB cd_len k.f_len b_len (da_cons (dv 0) da_nil)) da_nil))) da_nil))) da_nil)) (dg_name 1 S.nd) (ds_cons (dst_set 2 S.nd (de_call gh__law_filled k.g__law_filled hr (da_cons (dv 0) (da_cons (dv 1) da_nil))))
    (ds_one (dst_for .never rfl (di_range1 k.f_range (da_cons de_int da_nil)) (dg_name 3 S.nd) (ds_one (dst_if (dt_not (dt_val (de_callG h__law_right k.kp__law_right hgu k.g__law_right hr (da_cons (dv 2) da_nil)))) (ds_one (dst_ret de_bl)) ds_nil))))))
    (ds_one (dst_ret de_bl))), hp⟩

end W82
set_option linter.all false
set_option maxRecDepth 100000
set_option maxHeartbeats 1000000
/-! PM: tables in plain Lean: rounds, seats, names, replays. -/
namespace FN
abbrev Bs := List (List Int)
def srt (ns : List Int) : List Int := ns.mergeSort (fun a b => decide (a ≤ b))
theorem srt_perm (ns : List Int) : (srt ns).Perm ns := List.mergeSort_perm _ _
theorem mem_srt {ns : List Int} {x : Int} : x ∈ srt ns ↔ x ∈ ns := (srt_perm ns).mem_iff
theorem srt_sorted (ns : List Int) : (srt ns).Pairwise (· ≤ ·) := by
  have h := List.pairwise_mergeSort (le := fun a b : Int => decide (a ≤ b)) (fun a b c h1 h2 => by simp at *; omega) (fun a b => by simp; omega) ns
  exact h.imp fun h => of_decide_eq_true h
def rTh (bs : Bs) : List Int := srt bs.flatten
def rSg (bs : Bs) : Int := if (((rTh bs).length : Int) - (bs.length : Int)) % 2 = 0 then 1 else -1
abbrev big : Int := 1000000000000000000000000000000000000000000000000000000000000
def OkTh (ns : List Int) : Prop := ns.Pairwise (· < ·) ∧ (∀ n ∈ ns, 0 ≤ n ∧ n < big) ∧ 1 ≤ ns.length ∧ ns.length ≤ 5
def OkBs (bs : Bs) : Prop := (∀ b ∈ bs, OkTh b) ∧ 1 ≤ bs.flatten.length ∧ bs.flatten.length ≤ 5 ∧ bs.flatten.Nodup
def uSg (rs : List Bs) : Int := rs.foldl (fun a b => a * rSg b) 1
def OkRs (ts : List Int) (rs : List Bs) : Prop := rs.length ≤ 6 ∧ ∀ r ∈ rs, OkBs r ∧ rTh r = ts
def plc (bs : Bs) (t : Int) : Nat := (bs.findIdx? fun b => decide (t ∈ b)).getD 0
def seenL (bs : Bs) (t : Int) : List Int := srt (bs.take (plc bs t + 1)).flatten
structure Se where
  fi : Int
  di : Int
  pa : List Int
abbrev Seats := List (Int × Se)
abbrev Names := List (Int × Int)
section
variable {β : Type}
def lk (ss : List (Int × β)) (t : Int) : Option β := (ss.find? fun p => decide (p.1 = t)).map (·.2)
def put (ss : List (Int × β)) (t : Int) (v : β) : List (Int × β) := if (ss.any fun p => decide (p.1 = t)) = true then ss.map (fun p => if p.1 = t then (p.1, v) else p) else ss ++ [(t, v)]
def del (ss : List (Int × β)) (t : Int) : List (Int × β) := ss.filter fun p => decide (p.1 ≠ t)
def mg (a b : List (Int × β)) : List (Int × β) := b.foldl (fun acc p => put acc p.1 p.2) a
theorem lk_nil (t : Int) : lk ([] : List (Int × β)) t = none := rfl
theorem lk_cons (p : Int × β) (ss : List (Int × β)) (t : Int) : lk (p :: ss) t = if p.1 = t then some p.2 else lk ss t := by
  unfold lk
  rw [List.find?_cons]
  by_cases h : p.1 = t <;> simp [h]
theorem lk_append (a b : List (Int × β)) (t : Int) : lk (a ++ b) t = (lk a t).or (lk b t) := by
  induction a with
  | nil => simp [lk_nil]
  | cons p a ih =>
    rw [List.cons_append, lk_cons, lk_cons, ih]
    split <;> simp
theorem lk_none {ss : List (Int × β)} {t : Int} : lk ss t = none ↔ ∀ p ∈ ss, p.1 ≠ t := by
  unfold lk
  simp
theorem any_iff {ss : List (Int × β)} {t : Int} : (ss.any fun p => decide (p.1 = t)) = (lk ss t).isSome := by
  induction ss with
  | nil => rfl
  | cons p ss ih =>
    rw [List.any_cons, lk_cons, ih]
    by_cases h : p.1 = t <;> simp [h]
theorem lk_put (ss : List (Int × β)) (t : Int) (v : β) (u : Int) : lk (put ss t v) u = if u = t then some v else lk ss u := by
  unfold put
  rw [any_iff]
  split
  · rename_i h
    induction ss with
    | nil => simp [lk_nil] at h
    | cons p ss ih =>
      rw [List.map_cons, lk_cons, lk_cons]
      by_cases hp : p.1 = t
      · by_cases hu : u = t
        · simp [hp, hu]
        · rw [if_pos hp]
          have h1 : ¬ p.1 = u := fun e => hu (e.symm.trans hp)
          rw [if_neg h1, if_neg hu, if_neg h1]
          by_cases h2 : (lk ss t).isSome = true
          · rw [ih h2, if_neg hu]
          · have h3 : ss.map (fun p => if p.1 = t then (p.1, v) else p) = ss := by
              have h4 : lk ss t = none := by simpa using h2
              rw [lk_none] at h4
              exact (List.map_congr_left fun q hq => if_neg (h4 q hq)).trans (List.map_id' ss)
            rw [h3]
      · rw [lk_cons, if_neg hp] at h
        rw [if_neg hp, ih h]
        by_cases h1 : p.1 = u
        · rw [if_pos h1, if_pos h1]
          rw [if_neg (fun e => hp (h1.trans e))]
        · rw [if_neg h1, if_neg h1]
  · rename_i h
    rw [lk_append, lk_cons, lk_nil]
    have h' : lk ss t = none := by simpa using h
    by_cases hu : u = t
    · simp [hu, h']
    · rw [if_neg (fun e => hu e.symm), if_neg hu]; simp
theorem lk_del (ss : List (Int × β)) (t u : Int) : lk (del ss t) u = if u = t then none else lk ss u := by
  unfold del
  induction ss with
  | nil => simp [lk_nil]
  | cons p ss ih =>
    rw [List.filter_cons, lk_cons]
    by_cases hp : p.1 = t
    · simp only [hp, ne_eq, not_true_eq_false, decide_false, Bool.false_eq_true, if_false]
      simp only [hp, ne_eq] at ih
      rw [ih]
      by_cases hu : u = t
      · simp [hu]
      · rw [if_neg hu, if_neg hu, if_neg fun e => hu e.symm]
    · simp only [hp, ne_eq, not_false_eq_true, decide_true, if_true]
      rw [lk_cons, ih]
      by_cases h1 : p.1 = u
      · rw [if_pos h1, if_pos h1, if_neg fun e => hp (h1.trans e)]
      · rw [if_neg h1, if_neg h1]
theorem put_length (ss : List (Int × β)) (t : Int) (v : β) : (put ss t v).length ≤ ss.length + 1 := by
  unfold put
  split <;> simp
theorem put_all {P : Int × β → Prop} {ss : List (Int × β)} {t : Int} {v : β} (h : ∀ p ∈ ss, P p) (hv : P (t, v)) : ∀ p ∈ put ss t v, P p := by
  unfold put
  split
  · intro p hp
    obtain ⟨q, hq, e⟩ := List.mem_map.mp hp
    by_cases h1 : q.1 = t
    · rw [if_pos h1] at e; rw [← e, h1]; exact hv
    · rw [if_neg h1] at e; rw [← e]; exact h q hq
  · intro p hp
    rcases List.mem_append.mp hp with h1 | h1
    · exact h p h1
    · rw [List.mem_singleton.mp h1]; exact hv
theorem mg_length (a b : List (Int × β)) : (mg a b).length ≤ a.length + b.length := by
  induction b generalizing a with
  | nil => exact Nat.le_refl _
  | cons p b ih =>
    have h1 := ih (put a p.1 p.2)
    have h2 := put_length a p.1 p.2
    show (mg (put a p.1 p.2) b).length ≤ _
    rw [List.length_cons]
    omega
theorem mg_all {P : Int × β → Prop} {a b : List (Int × β)} (h : ∀ p ∈ a, P p) (h2 : ∀ p ∈ b, P p) : ∀ p ∈ mg a b, P p := by
  induction b generalizing a with
  | nil => exact h
  | cons p b ih => exact ih (put_all h (h2 p List.mem_cons_self)) fun q hq => h2 q (List.mem_cons_of_mem _ hq)
theorem lk_mg_none {a b : List (Int × β)} {u : Int} (h : lk b u = none) : lk (mg a b) u = lk a u := by
  induction b generalizing a with
  | nil => rfl
  | cons p b ih =>
    rw [lk_cons] at h
    split at h
    · cases h
    · rename_i hp
      show lk (mg (put a p.1 p.2) b) u = _
      rw [ih h, lk_put, if_neg fun e => hp e.symm]
/-- what is looked up in a merged dict hangs on the look-ups alone -/
theorem lk_mg_congr {a a' b b' : List (Int × β)} {u : Int} (ha : lk a u = lk a' u) (hb : b = b') : lk (mg a b) u = lk (mg a' b') u := by
  subst hb
  induction b generalizing a a' with
  | nil => exact ha
  | cons p b ih =>
    refine ih (a := put a p.1 p.2) (a' := put a' p.1 p.2) ?_
    rw [lk_put, lk_put, ha]
end
/-! ### one round -/
def nextSe (s : Se) (m : Nat) : Se := ⟨s.fi + s.di * (2 * (m : Int) - 3), -s.di, s.pa ++ [(m : Int)]⟩
def topNm (s : Se) (m : Nat) : Int := s.fi + s.di * (2 * (m : Int) - 2)
def near (ss : Seats) (bs : Bs) (t : Int) (s : Se) : List Int := ((seenL bs t).filter fun o => (lk ss o).isSome).filter fun o => decide ((lk ss o).map (·.pa) = some s.pa)
def sbStep (ss : Seats) (bs : Bs) (acc : Seats × Names) (t : Int) : Seats × Names :=
  match lk ss t with
  | none => acc
  | some s => if (near ss bs t s).getLast? = some t then (del acc.1 t, put acc.2 t (topNm s (near ss bs t s).length)) else (put acc.1 t (nextSe s (near ss bs t s).length), acc.2)
def sbh (ss : Seats) (bs : Bs) : Seats × Names := (rTh bs).foldl (sbStep ss bs) (ss, [])
structure St where
  run : List Int
  nm : Names
  ss : Seats
  rs : List Bs
def goS (ts : List Int) (st : St) (bs : Bs) : St := ⟨st.run, mg (mg [] st.nm) (sbh st.ss bs).2, (sbh st.ss bs).1, st.rs ++ [bs ++ (ts.filter fun t => decide (t ∉ st.run)).map fun t => [t]]⟩
def stopS (st : St) (t : Int) : St := { st with run := st.run.filter fun o => decide (o ≠ t) }
def initS (ts : List Int) : St := ⟨ts, [], ts.map fun t => (t, ⟨1, 1, []⟩), []⟩
def repS (ts : List Int) (rs : List Bs) : St := rs.foldl (goS ts) (initS ts)

theorem rTh_mem {bs : Bs} {t : Int} : t ∈ rTh bs ↔ t ∈ bs.flatten := mem_srt
/-- where a thread stands -/
theorem plc_ok {bs : Bs} {t : Int} (h : t ∈ bs.flatten) : ∃ b, bs[plc bs t]? = some b ∧ t ∈ b ∧ plc bs t < bs.length := by
  obtain ⟨b, hb, ht⟩ := List.mem_flatten.mp h
  unfold plc
  cases e : bs.findIdx? fun b => decide (t ∈ b) with
  | none =>
    rw [List.findIdx?_eq_none_iff] at e
    have := e b hb
    simp [ht] at this
  | some i =>
    rw [List.findIdx?_eq_some_iff_getElem] at e
    obtain ⟨hi, h1, _⟩ := e
    exact ⟨bs[i], by simp [hi], of_decide_eq_true h1, by simpa using hi⟩
theorem plc_append {bs cs : Bs} {t : Int} (h : t ∈ bs.flatten) : plc (bs ++ cs) t = plc bs t := by
  unfold plc
  rw [List.findIdx?_append]
  cases e : bs.findIdx? fun b => decide (t ∈ b) with
  | none =>
    rw [List.findIdx?_eq_none_iff] at e
    obtain ⟨b, hb, ht⟩ := List.mem_flatten.mp h
    have := e b hb
    simp [ht] at this
  | some i => simp
theorem seenL_append {bs cs : Bs} {t : Int} (h : t ∈ bs.flatten) : seenL (bs ++ cs) t = seenL bs t := by
  obtain ⟨b, _, _, hl⟩ := plc_ok h
  unfold seenL
  rw [plc_append h, List.take_append_of_le_length (by omega)]
theorem seenL_mem {bs : Bs} {t o : Int} (h : o ∈ seenL bs t) : o ∈ bs.flatten := by
  unfold seenL at h
  rw [mem_srt] at h
  obtain ⟨b, hb, ho⟩ := List.mem_flatten.mp h
  exact List.mem_flatten.mpr ⟨b, List.mem_of_mem_take hb, ho⟩
theorem seenL_self {bs : Bs} {t : Int} (h : t ∈ bs.flatten) : t ∈ seenL bs t := by
  obtain ⟨b, hb, ht, hl⟩ := plc_ok h
  unfold seenL
  rw [mem_srt]
  refine List.mem_flatten.mpr ⟨b, ?_, ht⟩
  rw [List.mem_iff_getElem?]
  exact ⟨plc bs t, by rw [List.getElem?_take_of_lt (by omega)]; exact hb⟩
theorem seenL_length (bs : Bs) (t : Int) : (seenL bs t).length ≤ bs.flatten.length := by
  unfold seenL
  rw [(srt_perm _).length_eq]
  rw [List.length_flatten, List.length_flatten]
  have : ∀ (n : Nat) (bs : Bs), ((bs.take n).map List.length).sum ≤ (bs.map List.length).sum := by
    intro n bs
    induction bs generalizing n with
    | nil => simp
    | cons b bs ih =>
      cases n with
      | zero => simp
      | succ n => simp only [List.take_succ_cons, List.map_cons, List.sum_cons]; have := ih n; omega
  exact this _ _
theorem near_self {ss : Seats} {bs : Bs} {t : Int} {s : Se} (h : t ∈ bs.flatten) (hs : lk ss t = some s) : t ∈ near ss bs t s := by
  unfold near
  rw [List.mem_filter, List.mem_filter]
  exact ⟨⟨seenL_self h, by rw [hs]; rfl⟩, by rw [hs]; simp⟩
theorem near_length (ss : Seats) (bs : Bs) (t : Int) (s : Se) : (near ss bs t s).length ≤ bs.flatten.length := Nat.le_trans (List.length_filter_le _ _) (Nat.le_trans (List.length_filter_le _ _) (seenL_length bs t))
/-- what a round does to one thread -/
def one (ss : Seats) (bs : Bs) (t : Int) : Option (Se ⊕ Int) := (lk ss t).map fun s => if (near ss bs t s).getLast? = some t then .inr (topNm s (near ss bs t s).length) else .inl (nextSe s (near ss bs t s).length)
theorem sbStep_fst (ss : Seats) (bs : Bs) (acc : Seats × Names) (t u : Int) : lk (sbStep ss bs acc t).1 u = if u = t then (match one ss bs t with
    | none => lk acc.1 u
    | some (.inl s) => some s
    | some (.inr _) => none) else lk acc.1 u := by
  unfold sbStep one
  cases e : lk ss t with
  | none => simp
  | some s =>
    simp only [Option.map_some]
    by_cases h : (near ss bs t s).getLast? = some t
    · simp only [h, if_true]; rw [lk_del]
    · simp only [h, if_false]; rw [lk_put]
theorem sbStep_snd (ss : Seats) (bs : Bs) (acc : Seats × Names) (t u : Int) : lk (sbStep ss bs acc t).2 u = if u = t then (match one ss bs t with
    | some (.inr v) => some v
    | _ => lk acc.2 u) else lk acc.2 u := by
  unfold sbStep one
  cases e : lk ss t with
  | none => simp
  | some s =>
    simp only [Option.map_some]
    by_cases h : (near ss bs t s).getLast? = some t
    · simp only [h, if_true]; rw [lk_put]
    · simp only [h, if_false]; split <;> rfl
theorem sb_fold (ss : Seats) (bs : Bs) (u : Int) : ∀ (xs : List Int) (acc : Seats × Names), xs.Nodup → lk (xs.foldl (sbStep ss bs) acc).1 u = (if u ∈ xs then (match one ss bs u with
    | none => lk acc.1 u
    | some (.inl s) => some s
    | some (.inr _) => none) else lk acc.1 u) ∧ lk (xs.foldl (sbStep ss bs) acc).2 u = (if u ∈ xs then (match one ss bs u with
    | some (.inr v) => some v
    | _ => lk acc.2 u) else lk acc.2 u)
  | [], acc, _ => by simp
  | x :: xs, acc, hn => by
    rw [List.nodup_cons] at hn
    obtain ⟨h1, h2⟩ := sb_fold ss bs u xs (sbStep ss bs acc x) hn.2
    rw [List.foldl_cons, h1, h2, sbStep_fst, sbStep_snd]
    by_cases hx : u = x
    · subst hx
      simp [hn.1]
    · simp [hx]
theorem rTh_nodup {bs : Bs} (h : bs.flatten.Nodup) : (rTh bs).Nodup := (srt_perm _).nodup_iff.mpr h
theorem sbh_fst {ss : Seats} {bs : Bs} (h : bs.flatten.Nodup) (u : Int) : lk (sbh ss bs).1 u = if u ∈ bs.flatten then (match one ss bs u with
    | some (.inl s) => some s
    | _ => none) else lk ss u := by
  unfold sbh
  rw [(sb_fold ss bs u _ _ (rTh_nodup h)).1]
  simp only [rTh_mem]
  split
  · have : one ss bs u = none → lk ss u = none := by
      unfold one; cases lk ss u <;> simp
    cases e : one ss bs u with
    | none => simp [this e]
    | some y => cases y <;> rfl
  · rfl
theorem sbh_snd {ss : Seats} {bs : Bs} (h : bs.flatten.Nodup) (u : Int) : lk (sbh ss bs).2 u = if u ∈ bs.flatten then (match one ss bs u with
    | some (.inr v) => some v
    | _ => none) else none := by
  unfold sbh
  rw [(sb_fold ss bs u _ _ (rTh_nodup h)).2]
  simp only [rTh_mem, lk_nil]
/-- what stays true of seats and names -/
def SeOk (k : Nat) (s : Se) : Prop := (s.di = 1 ∨ s.di = -1) ∧ -(1 + 8 * (k : Int)) ≤ s.fi ∧ s.fi ≤ 1 + 8 * (k : Int) ∧ s.pa.length ≤ k
def NmOk (k : Nat) (v : Int) : Prop := -(1 + 8 * (k : Int)) ≤ v ∧ v ≤ 1 + 8 * (k : Int)
theorem SeOk.mono {k : Nat} {s : Se} (h : SeOk k s) : SeOk (k + 1) s := ⟨h.1, by have := h.2; omega, by have := h.2; omega, by have := h.2; omega⟩
theorem nextSe_ok {k m : Nat} {s : Se} (h : SeOk k s) (hm : m ≤ 5) : SeOk (k + 1) (nextSe s m) := by
  obtain ⟨h1, h2, h3, h4⟩ := h
  unfold nextSe SeOk
  simp only [List.length_append, List.length_singleton]
  rcases h1 with h1 | h1 <;> rw [h1] <;> omega
theorem topNm_ok {k m : Nat} {s : Se} (h : SeOk k s) (hm : m ≤ 5) : NmOk (k + 1) (topNm s m) := by
  obtain ⟨h1, h2, h3, h4⟩ := h
  unfold topNm NmOk
  rcases h1 with h1 | h1 <;> rw [h1] <;> omega
theorem lk_mem {β : Type} {ss : List (Int × β)} {t : Int} {v : β} (h : lk ss t = some v) : (t, v) ∈ ss := by
  unfold lk at h
  obtain ⟨p, hp, rfl⟩ := Option.map_eq_some_iff.mp h
  have h1 := List.find?_some hp
  have h2 := List.mem_of_find?_eq_some hp
  simp at h1
  rw [← h1]
  exact h2
theorem sb_inv {k : Nat} {ss : Seats} {bs : Bs} (hl : bs.flatten.length ≤ 5) (hs : ∀ p ∈ ss, SeOk k p.2) : ∀ (xs : List Int) (acc : Seats × Names), (∀ p ∈ acc.1, SeOk (k + 1) p.2) → (∀ p ∈ acc.2, NmOk (k + 1) p.2) →
    (∀ p ∈ (xs.foldl (sbStep ss bs) acc).1, SeOk (k + 1) p.2) ∧ (∀ p ∈ (xs.foldl (sbStep ss bs) acc).2, NmOk (k + 1) p.2) ∧ (xs.foldl (sbStep ss bs) acc).1.length ≤ acc.1.length + xs.length ∧ (xs.foldl (sbStep ss bs) acc).2.length ≤ acc.2.length + xs.length
  | [], acc, h1, h2 => ⟨h1, h2, Nat.le_refl _, Nat.le_refl _⟩
  | x :: xs, acc, h1, h2 => by
    have g : (∀ p ∈ (sbStep ss bs acc x).1, SeOk (k + 1) p.2) ∧ (∀ p ∈ (sbStep ss bs acc x).2, NmOk (k + 1) p.2) ∧ (sbStep ss bs acc x).1.length ≤ acc.1.length + 1 ∧ (sbStep ss bs acc x).2.length ≤ acc.2.length + 1 := by
      unfold sbStep
      cases e : lk ss x with
      | none => exact ⟨h1, h2, Nat.le_succ _, Nat.le_succ _⟩
      | some s =>
        have hs' : SeOk k s := hs _ (lk_mem e)
        have hm : (near ss bs x s).length ≤ 5 := Nat.le_trans (near_length ss bs x s) hl
        dsimp only
        split
        · refine ⟨fun p hp => h1 p (List.mem_filter.mp hp).1, put_all h2 (topNm_ok hs' hm), ?_, put_length _ _ _⟩
          have := List.length_filter_le (fun p : Int × Se => decide (p.1 ≠ x)) acc.1
          exact Nat.le_succ_of_le this
        · exact ⟨put_all h1 (nextSe_ok hs' hm), h2, put_length _ _ _, Nat.le_succ _⟩
    obtain ⟨g1, g2, g3, g4⟩ := g
    obtain ⟨i1, i2, i3, i4⟩ := sb_inv hl hs xs _ g1 g2
    rw [List.foldl_cons, List.length_cons]
    exact ⟨i1, i2, by omega, by omega⟩
/-! ### standings -/
structure Wf (ts : List Int) (st : St) : Prop where
  ot : OkTh ts
  uq : ((st.nm.map (·.1))).Nodup
  sub : st.run.Sublist ts
  ne : st.run ≠ []
  rs : OkRs ts st.rs
  nl : st.nm.length ≤ 5 * st.rs.length
  sl : st.ss.length ≤ 5 + 5 * st.rs.length
  so : ∀ p ∈ st.ss, SeOk st.rs.length p.2
  no : ∀ p ∈ st.nm, NmOk st.rs.length p.2
  rep : ∀ t ∈ st.run, lk (repS ts st.rs).nm t = lk st.nm t ∧ lk (repS ts st.rs).ss t = lk st.ss t
theorem asc_nodup {xs : List Int} (h : xs.Pairwise (· < ·)) : xs.Nodup := h.imp fun h => by omega
theorem srt_asc {xs : List Int} (h : xs.Nodup) : (srt xs).Pairwise (· < ·) := by
  have h1 := srt_sorted xs
  have h2 : (srt xs).Nodup := (srt_perm xs).nodup_iff.mpr h
  exact (h1.and h2).imp fun ⟨a, b⟩ => by omega
theorem asc_eq : ∀ {a b : List Int}, a.Pairwise (· < ·) → b.Pairwise (· < ·) → (∀ k, k ∈ a ↔ k ∈ b) → a = b
  | [], [], _, _, _ => rfl
  | [], y :: ys, _, _, h => absurd ((h y).mpr List.mem_cons_self) (by simp)
  | x :: xs, [], _, _, h => absurd ((h x).mp List.mem_cons_self) (by simp)
  | x :: xs, y :: ys, ha, hb, h => by
    rw [List.pairwise_cons] at ha hb
    have e : x = y := by
      have h1 := (h x).mp List.mem_cons_self
      have h2 := (h y).mpr List.mem_cons_self
      rcases List.mem_cons.mp h1 with e | e
      · exact e
      · rcases List.mem_cons.mp h2 with f | f
        · exact f.symm
        · have := ha.1 y f
          have := hb.1 x e
          omega
    subst e
    congr 1
    refine asc_eq ha.2 hb.2 fun k => ?_
    constructor
    · intro hk
      rcases List.mem_cons.mp ((h k).mp (List.mem_cons_of_mem _ hk)) with e | e
      · subst e; exact absurd (ha.1 k hk) (by omega)
      · exact e
    · intro hk
      rcases List.mem_cons.mp ((h k).mpr (List.mem_cons_of_mem _ hk)) with e | e
      · subst e; exact absurd (hb.1 k hk) (by omega)
      · exact e
/-- a round on the running threads, the stopped ones behind -/
def wholeB (ts run : List Int) (bs : Bs) : Bs := bs ++ (ts.filter fun t => decide (t ∉ run)).map fun t => [t]
theorem flat_single (xs : List Int) : (xs.map fun t => [t]).flatten = xs := by
  induction xs with
  | nil => rfl
  | cons x xs ih => simp [ih]
theorem whole_flat (ts run : List Int) (bs : Bs) : (wholeB ts run bs).flatten = bs.flatten ++ ts.filter fun t => decide (t ∉ run) := by
  unfold wholeB
  rw [List.flatten_append, flat_single]
theorem whole_ok {ts run : List Int} {bs : Bs} (hts : OkTh ts) (hs : run.Sublist ts) (hb : OkBs bs) (hr : rTh bs = run) : OkBs (wholeB ts run bs) ∧ rTh (wholeB ts run bs) = ts := by
  have hm : ∀ t, t ∈ bs.flatten ↔ t ∈ run := fun t => by rw [← hr]; exact rTh_mem.symm
  have nd : (wholeB ts run bs).flatten.Nodup := by
    rw [whole_flat, List.nodup_append]
    refine ⟨hb.2.2.2, (asc_nodup hts.1).filter _, fun a ha b hb' e => ?_⟩
    subst e
    have h1 := (List.mem_filter.mp hb').2
    simp at h1
    exact h1 ((hm a).mp ha)
  have mem : ∀ t, t ∈ (wholeB ts run bs).flatten ↔ t ∈ ts := fun t => by
    rw [whole_flat, List.mem_append, List.mem_filter, hm]
    constructor
    · rintro (h | h)
      · exact hs.mem h
      · exact h.1
    · intro h
      by_cases h' : t ∈ run
      · exact .inl h'
      · exact .inr ⟨h, by simp [h']⟩
  have e : rTh (wholeB ts run bs) = ts := asc_eq (srt_asc nd) hts.1 fun t => by rw [rTh_mem]; exact mem t
  have el : (wholeB ts run bs).flatten.length = ts.length := by
    have := (srt_perm (wholeB ts run bs).flatten).length_eq
    rw [← this]
    exact congrArg List.length e
  refine ⟨⟨fun b hb' => ?_, by rw [el]; exact hts.2.2.1, by rw [el]; exact hts.2.2.2, nd⟩, e⟩
  rcases List.mem_append.mp hb' with h | h
  · exact hb.1 b h
  · obtain ⟨t, ht, rfl⟩ := List.mem_map.mp h
    have := hts.2.1 t (List.mem_filter.mp ht).1
    exact ⟨by simp, by simpa using this, by simp, by simp⟩
theorem repS_rs (ts : List Int) : ∀ rs : List Bs, (repS ts rs).rs = rs ∧ (repS ts rs).run = ts := by
  have key : ∀ (rs : List Bs) (st : St), st.run = ts → (rs.foldl (goS ts) st).rs = st.rs ++ rs ∧ (rs.foldl (goS ts) st).run = ts := by
    intro rs
    induction rs with
    | nil => intro st h; exact ⟨by simp, h⟩
    | cons r rs ih =>
      intro st h
      obtain ⟨h1, h2⟩ := ih (goS ts st r) h
      rw [List.foldl_cons]
      refine ⟨?_, h2⟩
      rw [h1]
      show (st.rs ++ [wholeB ts st.run r]) ++ rs = _
      have : wholeB ts st.run r = r := by
        unfold wholeB
        rw [h]
        have : ts.filter (fun t => decide (t ∉ ts)) = [] := List.filter_eq_nil_iff.mpr fun t ht => by simp [ht]
        rw [this]; simp
      rw [this]; simp
  intro rs
  have := key rs (initS ts) rfl
  exact ⟨by rw [repS, this.1]; rfl, this.2⟩
theorem repS_snoc (ts : List Int) (rs : List Bs) (r : Bs) : repS ts (rs ++ [r]) = goS ts (repS ts rs) r := by
  unfold repS
  rw [List.foldl_append]
  rfl
theorem near_congr {ss ss' : Seats} {bs cs : Bs} {t : Int} {s : Se} (h : t ∈ bs.flatten) (hs : ∀ o ∈ bs.flatten, lk ss' o = lk ss o) : near ss' (bs ++ cs) t s = near ss bs t s := by
  unfold near
  rw [seenL_append h]
  have h1 : ∀ o ∈ seenL bs t, lk ss' o = lk ss o := fun o ho => hs o (seenL_mem ho)
  rw [List.filter_filter, List.filter_filter]
  exact List.filter_congr fun o ho => by rw [h1 o ho]
theorem one_congr {ss ss' : Seats} {bs cs : Bs} {t : Int} (h : t ∈ bs.flatten) (hs : ∀ o ∈ bs.flatten, lk ss' o = lk ss o) : one ss' (bs ++ cs) t = one ss bs t := by
  unfold one
  rw [hs t h]
  simp only [near_congr h hs]
theorem lk_mg {β : Type} {a b : List (Int × β)} {u : Int} (hb : ∀ x ∈ b, lk b x.1 = some x.2) : lk (mg a b) u = (lk b u).or (lk a u) := by
  have key : ∀ (b : List (Int × β)) (a : List (Int × β)), lk (mg a b) u = (lk b.reverse u).or (lk a u) := by
    intro b
    induction b with
    | nil => intro a; simp [mg, lk_nil]
    | cons p b ih =>
      intro a
      show lk (mg (put a p.1 p.2) b) u = _
      rw [ih, lk_put, List.reverse_cons, lk_append, lk_cons, lk_nil]
      cases lk b.reverse u with
      | some v => rfl
      | none =>
        simp only [Option.none_or]
        by_cases h : u = p.1
        · rw [if_pos h, if_pos h.symm]; rfl
        · rw [if_neg h, if_neg fun e => h e.symm]; rfl
  rw [key]
  congr 1
  cases e : lk b u with
  | none =>
    rw [lk_none] at e ⊢
    intro p hp
    exact e p (List.mem_reverse.mp hp)
  | some v =>
    cases e2 : lk b.reverse u with
    | none =>
      rw [lk_none] at e2
      exact absurd rfl (e2 _ (List.mem_reverse.mpr (lk_mem e)))
    | some v' =>
      have h1 := hb _ (List.mem_reverse.mp (lk_mem e2))
      simp only at h1
      rw [e] at h1
      cases h1; rfl
/-- dicts: a key stands once -/
def Uq {β : Type} (b : List (Int × β)) : Prop := (b.map (·.1)).Nodup
theorem Uq.lk {β : Type} : ∀ {b : List (Int × β)}, Uq b → ∀ x ∈ b, lk b x.1 = some x.2
  | [], _, _, h => absurd h (by simp)
  | p :: b, u, x, h => by
    unfold Uq at u
    rw [List.map_cons, List.nodup_cons] at u
    rw [lk_cons]
    rcases List.mem_cons.mp h with e | e
    · rw [e, if_pos rfl]
    · rw [if_neg]
      · exact Uq.lk (b := b) u.2 x e
      · intro z
        exact u.1 (z ▸ List.mem_map_of_mem e)
theorem Uq.put {β : Type} {b : List (Int × β)} (h : Uq b) (t : Int) (v : β) : Uq (put b t v) := by
  unfold FN.put
  split
  · unfold Uq at *
    rw [List.map_map]
    have : ((fun x : Int × β => x.1) ∘ fun p => if p.1 = t then (p.1, v) else p) = fun p => p.1 := by
      funext p
      simp only [Function.comp]
      split <;> rfl
    rw [this]; exact h
  · rename_i hn
    unfold Uq at *
    rw [List.map_append, List.nodup_append]
    refine ⟨h, by simp, fun a ha c hc e => ?_⟩
    subst e
    simp at hc
    subst hc
    obtain ⟨p, hp, e⟩ := List.mem_map.mp ha
    apply hn
    rw [List.any_eq_true]
    exact ⟨p, hp, decide_eq_true e⟩
theorem Uq.mg {β : Type} {a : List (Int × β)} : ∀ {b : List (Int × β)}, Uq a → Uq (mg a b)
  | [], h => h
  | p :: b, h => Uq.mg (b := b) (a := FN.put a p.1 p.2) (h.put _ _)
theorem sb_uq {ss : Seats} {bs : Bs} : ∀ (xs : List Int) (acc : Seats × Names), Uq acc.2 → Uq (xs.foldl (sbStep ss bs) acc).2
  | [], _, h => h
  | x :: xs, acc, h => by
    rw [List.foldl_cons]
    refine sb_uq xs _ ?_
    unfold sbStep
    split
    · exact h
    · split
      · exact h.put _ _
      · exact h
theorem sbh_uq (ss : Seats) (bs : Bs) : Uq (sbh ss bs).2 := sb_uq _ _ List.nodup_nil
theorem lk_mgnil {a : Names} (u : Int) (h : Uq a) : lk (mg [] a) u = lk a u := by
  rw [lk_mg h.lk, lk_nil]
  cases lk a u <;> rfl
theorem Uq.goS {ts : List Int} {st : St} {bs : Bs} (_ : Uq st.nm) : Uq (goS ts st bs).nm := Uq.mg (Uq.mg (by unfold Uq; simp))
theorem repS_uq (ts : List Int) : ∀ rs : List Bs, Uq (repS ts rs).nm := by
  have key : ∀ (rs : List Bs) (st : St), Uq st.nm → Uq (rs.foldl (FN.goS ts) st).nm := by
    intro rs
    induction rs with
    | nil => intro st h; exact h
    | cons r rs ih => intro st h; exact ih _ (Uq.goS h)
  intro rs
  exact key rs _ (by unfold Uq initS; simp)
theorem wf_init {ts : List Int} (h : OkTh ts) : Wf ts (initS ts) := by
  have hl : ts.length ≤ 5 := h.2.2.2
  refine ⟨h, by simp [initS], List.Sublist.refl _, ?_, ⟨by simp [initS], by simp [initS]⟩, by simp [initS], by simp [initS]; omega, ?_, by simp [initS], fun t _ => ⟨rfl, rfl⟩⟩
  · intro e
    have : (initS ts).run = ts := rfl
    rw [this] at e
    rw [e] at h
    exact absurd h.2.2.1 (by simp)
  · intro p hp
    obtain ⟨t, _, rfl⟩ := List.mem_map.mp (show p ∈ ts.map _ from hp)
    exact ⟨.inl rfl, by simp [initS], by simp [initS], by simp [initS]⟩
theorem wf_stop {ts : List Int} {st : St} {t : Int} (h : Wf ts st) (hl : 1 < st.run.length) : Wf ts (stopS st t) := by
  refine ⟨h.ot, h.uq, List.filter_sublist.trans h.sub, ?_, h.rs, h.nl, h.sl, h.so, h.no, fun u hu => h.rep u (List.mem_filter.mp hu).1⟩
  intro e
  have e' : st.run.filter (fun o => decide (o ≠ t)) = [] := e
  rw [List.filter_eq_nil_iff] at e'
  have all : ∀ o ∈ st.run, o = t := fun o ho => by simpa using e' o ho
  have nd : st.run.Nodup := (asc_nodup h.ot.1).sublist h.sub
  match hr : st.run, hl, nd, all with
  | a :: b :: r, _, nd, all =>
    rw [List.nodup_cons] at nd
    have h1 := all a (by simp)
    have h2 := all b (by simp)
    exact nd.1 (by rw [h1, ← h2]; simp)
theorem wf_go {ts : List Int} {st : St} {bs : Bs} (h : Wf ts st) (hb : OkBs bs) (hr : rTh bs = st.run) (hl : st.rs.length < 6) : Wf ts (goS ts st bs) := by
  obtain ⟨w1, w2⟩ := whole_ok h.ot h.sub hb hr
  have inv := sb_inv (k := st.rs.length) (ss := st.ss) (bs := bs) hb.2.2.1 h.so (rTh bs) (st.ss, []) (fun p hp => (h.so p hp).mono) (fun p hp => absurd hp (by simp))
  obtain ⟨i1, i2, i3, i4⟩ := inv
  have hlen : (rTh bs).length ≤ 5 := by
    have := (srt_perm bs.flatten).length_eq
    show (srt bs.flatten).length ≤ 5
    rw [this]; exact hb.2.2.1
  have el : (goS ts st bs).rs.length = st.rs.length + 1 := by simp [goS]
  refine ⟨h.ot, Uq.goS h.uq, h.sub, h.ne, ⟨by rw [el]; omega, fun r hr' => ?_⟩, ?_, ?_, ?_, ?_, fun t ht => ?_⟩
  · rcases List.mem_append.mp (show r ∈ st.rs ++ [wholeB ts st.run bs] from hr') with e | e
    · exact h.rs.2 r e
    · rw [List.mem_singleton.mp e]; exact ⟨w1, w2⟩
  · rw [el]
    have h1 := mg_length (mg [] st.nm) (sbh st.ss bs).2
    have h2 := mg_length [] st.nm
    have h3 := h.nl
    have : (sbh st.ss bs).2.length ≤ 0 + (rTh bs).length := i4
    show (mg (mg [] st.nm) (sbh st.ss bs).2).length ≤ _
    simp only [List.length_nil] at h2
    omega
  · rw [el]
    have h3 := h.sl
    have : (sbh st.ss bs).1.length ≤ st.ss.length + (rTh bs).length := i3
    show (sbh st.ss bs).1.length ≤ _
    omega
  · rw [el]; exact i1
  · rw [el]
    refine mg_all (mg_all (by simp) fun p hp => ?_) i2
    have := h.no p hp
    unfold NmOk at *
    omega
  · have hm : t ∈ bs.flatten := by rw [← rTh_mem, hr]; exact ht
    show lk (repS ts (st.rs ++ [wholeB ts st.run bs])).nm t = _ ∧ lk (repS ts (st.rs ++ [wholeB ts st.run bs])).ss t = _
    rw [repS_snoc]
    have hs : ∀ o ∈ bs.flatten, lk (repS ts st.rs).ss o = lk st.ss o := fun o ho => (h.rep o (by rw [← hr, rTh_mem]; exact ho)).2
    have hone := one_congr (cs := (ts.filter fun t => decide (t ∉ st.run)).map fun t => [t]) hm hs
    have nd2 : (wholeB ts st.run bs).flatten.Nodup := w1.2.2.2
    have mw : t ∈ (wholeB ts st.run bs).flatten := by rw [whole_flat]; exact List.mem_append_left _ hm
    constructor
    · show lk (mg (mg [] (repS ts st.rs).nm) (sbh (repS ts st.rs).ss (wholeB ts st.run bs)).2) t = lk (mg (mg [] st.nm) (sbh st.ss bs).2) t
      rw [lk_mg (sbh_uq _ _).lk, lk_mg (sbh_uq _ _).lk, sbh_snd nd2, sbh_snd hb.2.2.2, if_pos mw, if_pos hm, lk_mgnil _ (repS_uq _ _), lk_mgnil _ h.uq, (h.rep t ht).1]
      unfold wholeB
      rw [hone]
    · show lk (sbh (repS ts st.rs).ss (wholeB ts st.run bs)).1 t = lk (sbh st.ss bs).1 t
      rw [sbh_fst nd2, sbh_fst hb.2.2.2, if_pos mw, if_pos hm]
      unfold wholeB
      rw [hone]
end FN
set_option Elab.async false
set_option linter.all false
set_option maxRecDepth 100000
set_option maxHeartbeats 4000000
/-! P1: promises of rounds and runs, and their plain proofs -/
namespace FN
open PySem PySem.Spec PyProof.Rows L2 SlX DL
/-! ### data -/
def tI (ns : List Int) : D := .tup (ns.map .int)
def tB (bs : Bs) : D := .tup (bs.map tI)
def rD (K : PySem.W.Frag) (bs : Bs) : D := .obj (ga K "Round") [tB bs, .int (rSg bs), .int bs.length, tI (rTh bs)]
def uD (K : PySem.W.Frag) (ts : List Int) (rs : List Bs) : D := .obj (ga K "Run") [.tup (rs.map (rD K)), .int (uSg rs), tI ts]
def LRound (K : PySem.W.Frag) (C : Addr) (xs : List D) : Prop := ∃ bs, D.obj C xs = rD K bs
theorem srt_eq (ns : List Int) : sortI ns = srt ns := rfl
@[simp] theorem ex_eq2 {α β : Sort _} {a : α} {b : β} {p : α → β → Prop} : (∃ x y, (a = x ∧ b = y) ∧ p x y) ↔ p a b := ⟨fun ⟨_, _, ⟨rfl, rfl⟩, h⟩ => h, fun h => ⟨_, _, ⟨rfl, rfl⟩, h⟩⟩
@[simp] theorem ex_eq2' {α β : Sort _} {a : α} {b : β} {p : α → β → Prop} : (∃ x y, (a = x ∧ y = b) ∧ p x y) ↔ p a b := ⟨fun ⟨_, _, ⟨rfl, rfl⟩, h⟩ => h, fun h => ⟨_, _, ⟨rfl, rfl⟩, h⟩⟩
@[simp] theorem ex_eq3 {α β γ : Sort _} {a : α} {b : β} {c : γ} {p : α → β → γ → Prop} : (∃ x y z, (a = x ∧ b = y ∧ c = z) ∧ p x y z) ↔ p a b c := ⟨fun ⟨_, _, _, ⟨rfl, rfl, rfl⟩, h⟩ => h, fun h => ⟨_, _, _, ⟨rfl, rfl, rfl⟩, h⟩⟩
section
variable {K : PySem.W.Frag} {m : Mu}
@[simp] theorem r_slot0 (bs : Bs) : slotOf (ga K "Round") 0 m (rD K bs) = some (tB bs) := by simp [rD, slotOf]
@[simp] theorem r_slot1 (bs : Bs) : slotOf (ga K "Round") 1 m (rD K bs) = some (.int (rSg bs)) := by simp [rD, slotOf]
@[simp] theorem r_slot2 (bs : Bs) : slotOf (ga K "Round") 2 m (rD K bs) = some (.int bs.length) := by simp [rD, slotOf]
@[simp] theorem r_slot3 (bs : Bs) : slotOf (ga K "Round") 3 m (rD K bs) = some (tI (rTh bs)) := by simp [rD, slotOf]
@[simp] theorem r_obj (bs : Bs) : isObjS (ga K "Round") m (rD K bs) := rfl
@[simp] theorem r_inst (bs : Bs) : instD (ga K "Round") m (rD K bs) := rfl
@[simp] theorem u_slot0 (ts : List Int) (rs : List Bs) : slotOf (ga K "Run") 0 m (uD K ts rs) = some (.tup (rs.map (rD K))) := by simp [uD, slotOf]
@[simp] theorem u_slot1 (ts : List Int) (rs : List Bs) : slotOf (ga K "Run") 1 m (uD K ts rs) = some (.int (uSg rs)) := by simp [uD, slotOf]
@[simp] theorem u_slot2 (ts : List Int) (rs : List Bs) : slotOf (ga K "Run") 2 m (uD K ts rs) = some (tI ts) := by simp [uD, slotOf]
@[simp] theorem u_obj (ts : List Int) (rs : List Bs) : isObjS (ga K "Run") m (uD K ts rs) := rfl
@[simp] theorem u_inst (ts : List Int) (rs : List Bs) : instD (ga K "Run") m (uD K ts rs) := rfl
@[simp] theorem dat_tI (ns : List Int) : datOf (tI ns) m = tI ns := rfl
@[simp] theorem dat_tB (ns : Bs) : datOf (tB ns) m = tB ns := rfl
@[simp] theorem seq_tI (ns : List Int) : seqOf (tI ns) m = some (ns.map .int) := rfl
@[simp] theorem seq_tB (ns : Bs) : seqOf (tB ns) m = some (ns.map tI) := rfl
@[simp] theorem len_tI (ns : List Int) : lenOf m (tI ns) = some ns.length := by simp [tI]
@[simp] theorem len_tB (ns : Bs) : lenOf m (tB ns) = some ns.length := by simp [tB]
@[simp] theorem sh_tIs (ns : List Int) : shD (tI ns) := sh_tI ns
@[simp] theorem eq_tI (a b : List Int) : eqD (tI a) (tI b) = decide (a = b) := eqD_tupI a b
@[simp] theorem slot_set {C : Addr} {i n : Nat} {xs : List (Option D)} (h : n < m.length) : slotOf C i (m.set n (.slt C xs)) (.ref n) = (xs[i]?).join := by simp [slotOf, h]
@[simp] theorem fld_set {C : Addr} {f : Str} {n : Nat} {fs : List (Str × D)} (h : n < m.length) : fldOf C f (m.set n (.ins C fs)) (.ref n) = fs.lookup f := by simp [fldOf, h]
@[simp] theorem ty_str (x : Str) : tyD "str" (.str x) m := rfl
theorem cut_take {xs : List D} {k : Nat} : DL.cutD xs none (some (k : Int)) = xs.take k := by
  unfold DL.cutD
  rw [HT.sIx_nat, HT.sIx_none]
  simp only [List.drop_zero, Nat.sub_zero]
  by_cases h : k ≤ xs.length
  · rw [Nat.min_eq_left h]
  · rw [Nat.min_eq_right (by omega), List.take_of_length_le (Nat.le_refl _), List.take_of_length_le (by omega)]
theorem cut_drop {xs : List D} {k : Nat} : DL.cutD xs (some (k : Int)) none = xs.drop k := by
  unfold DL.cutD
  rw [HT.sIx_nat, HT.sIx_none]
  by_cases h : k ≤ xs.length
  · rw [Nat.min_eq_left h, List.take_of_length_le (by simp)]
  · rw [Nat.min_eq_right (by omega), List.drop_eq_nil_of_le (Nat.le_refl _), List.drop_eq_nil_of_le (by omega)]; simp
theorem forL_O {α : Type} {c : α → D} {g : TDG} {tb : TDS} {D1 : DEnds} {P : Mu → Prop} (I : List α → List α → DS → Mu → Prop) (h0 : ∀ ds xs δ m, I ds xs δ m → P m) (hE : ∀ ds δ m, I ds [] δ m → D1.nx δ m)
    (hs : ∀ ds x xs δ m, I ds (x :: xs) δ m → ∀ N : DS → Mu → Prop, (∀ δ' m', I (ds ++ [x]) xs δ' m' → N δ' m') → g (c x) δ m fun δ2 m2 => tb { D1 with nx := N, ct := N, bk := D1.nx } δ2 m2) : ∀ ds xs δ m, I ds xs δ m → forL g tb D1 P (xs.map c) δ m
  | _, [], δ, m, h => ⟨h0 _ _ _ _ h, hE _ _ _ h⟩
  | ds, x :: xs, δ, m, h => ⟨h0 _ _ _ _ h, hs ds x xs δ m h (forL g tb D1 P (xs.map c)) fun δ' m' h' => forL_O I h0 hE hs (ds ++ [x]) xs δ' m' h'⟩
theorem log2_lt {n k : Nat} (h : n < 2 ^ k) (hk : 0 < k) : n.log2 < k := by
  by_cases h0 : n = 0
  · subst h0; simpa using hk
  · exact (Nat.log2_lt h0).mpr h
theorem cmulW {i j : Int} (hi : i.natAbs < 2 ^ 500000) (hj : j.natAbs < 2 ^ 400000) : CMulW i j := by
  have h1 := log2_lt hi (by decide)
  have h2 := log2_lt hj (by decide)
  unfold CMulW
  omega
end
/-! ### promises -/
def sp_is_integer (K : PySem.W.Frag) : DRs := fun ds m R => ∃ i : Int, ds = [.int i] ∧ -big < i ∧ i < big ∧ R (.bl true) m
def sp_is_between (K : PySem.W.Frag) : DRs := fun ds m R => ∃ i lo hi : Int, ds = [.int i, .int lo, .int hi] ∧ -big < i ∧ i < big ∧ lo ≤ i ∧ i ≤ hi ∧ R (.bl true) m
def sp_is_old_name (K : PySem.W.Frag) : DRs := fun ds m R => ∃ i : Int, ds = [.int i] ∧ 0 ≤ i ∧ i < big ∧ R (.bl true) m
def sp_are_old_names (K : PySem.W.Frag) : DRs := fun ds m R => ∃ ns : List Int, ds = [tI ns] ∧ ns.Pairwise (· < ·) ∧ (∀ n ∈ ns, 0 ≤ n ∧ n < big) ∧ ns.length < 64 ∧ R (.bl true) m
def sp_are_threads (K : PySem.W.Frag) : DRs := fun ds m R => ∃ ns : List Int, ds = [tI ns] ∧ OkTh ns ∧ R (.bl true) m
def sp_require_threads (K : PySem.W.Frag) : DRs := fun ds m R => ∃ ns : List Int, ds = [tI ns] ∧ OkTh ns ∧ R .non m
def sp_are_blocks (K : PySem.W.Frag) : DRs := fun ds m R => ∃ bs : Bs, ds = [tB bs] ∧ OkBs bs ∧ R (.bl true) m
def sp_Round___init__ (K : PySem.W.Frag) : DRs := fun ds m R => ∃ (n : Nat) (bs : Bs), ds = [.ref n, tB bs] ∧ m[n]? = some (.slt (ga K "Round") []) ∧ OkBs bs ∧
  R .non (m.set n (.slt (ga K "Round") [some (tB bs), some (.int (rSg bs)), some (.int bs.length), some (tI (rTh bs))]))
def mk_Round (K : PySem.W.Frag) : DRs := fun ds m R => ∃ bs : Bs, ds = [tB bs] ∧ OkBs bs ∧ R (rD K bs) m
def sp_Round___eq__ (K : PySem.W.Frag) : DRs := fun ds m R => ∃ bs : Bs, ds = [rD K bs, rD K bs] ∧ R (.bl true) m
def sp_place_of (K : PySem.W.Frag) : DRs := fun ds m R => ∃ (bs : Bs) (t : Int), ds = [rD K bs, .int t] ∧ hasT (tbP K "place_of") m ∧ R (.int (plc bs t : Nat)) m
def sp_seen_by (K : PySem.W.Frag) : DRs := fun ds m R => ∃ (bs : Bs) (t : Int), ds = [rD K bs, .int t] ∧ OkBs bs ∧ hasT (tbP K "place_of") m ∧ R (tI (seenL bs t)) m
def sp_are_rounds (K : PySem.W.Frag) : DRs := fun ds m R => ∃ (ts : List Int) (rs : List Bs), ds = [tI ts, .tup (rs.map (rD K))] ∧ OkRs ts rs ∧ R (.bl true) m
/-! ### plain proofs -/
theorem hp_is_integer (K : PySem.W.Frag) : ∀ ds m R, sp_is_integer K ds m R → T_is_integer K (endsD m R) (startD ["value"] ds) m := by
  rintro ds m R ⟨i, rfl, h1, h2, h3⟩
  simp [T_is_integer, startD]
  refine .inr ⟨h1, ?_⟩
  rw [decide_eq_true h2]
  exact .same h3
theorem hp_is_between (K : PySem.W.Frag) : ∀ ds m R, sp_is_between K ds m R → T_is_between K (sp_is_integer K) (endsD m R) (startD ["value", "low", "high"] ds) m := by
  rintro ds m R ⟨i, lo, hi, rfl, h1, h2, h3, h4, h5⟩
  simp [T_is_between, startD, sp_is_integer]
  refine ⟨h1, h2, .inr ⟨h3, ?_⟩⟩
  rw [decide_eq_true h4]
  exact .same h5
theorem hp_is_old_name (K : PySem.W.Frag) : ∀ ds m R, sp_is_old_name K ds m R → T_is_old_name K (sp_is_integer K) (endsD m R) (startD ["value"] ds) m := by
  rintro ds m R ⟨i, rfl, h1, h2, h3⟩
  simp [T_is_old_name, startD, sp_is_integer]
  refine ⟨by unfold big; omega, h2, ?_⟩
  rw [decide_eq_true h1]
  exact .same h3
theorem hp_are_old_names (K : PySem.W.Frag) : ∀ ds m R, sp_are_old_names K ds m R → T_are_old_names K (sp_is_old_name K) (endsD m R) (startD ["value", "one"] ds) m := by
  rintro ds m R ⟨ns, rfl, h1, h2, h3, h4⟩
  simp [T_are_old_names, startD, tI]
  refine lcL_mapO (f := fun _ => .bl true) trivial ns [] (fun x hx A B hA => ?_) (by simp; unfold sizeLine; omega) ?_
  · simp [dwipe, sp_is_old_name]
    exact ⟨(h2 x hx).1, (h2 x hx).2, hA⟩
  · simp [dAll]
    refine ⟨ns.map fun _ => true, by simp [lsqOf, lstOf], .inr ⟨by simp, ns, rfl, h3, sh_lI _, sh_lI _, ?_⟩⟩
    rw [asc_setI h1, eqD_refl (datLI ns)]
    exact .same h4
theorem hp_are_threads (K : PySem.W.Frag) : ∀ ds m R, sp_are_threads K ds m R → T_are_threads K (sp_are_old_names K) (endsD m R) (startD ["value"] ds) m := by
  rintro ds m R ⟨ns, rfl, ⟨h1, h2, h3, h4⟩, h5⟩
  simp [T_are_threads, startD, sp_are_old_names]
  refine ⟨ns, rfl, h1, h2, by omega, .inr ⟨by omega, ?_⟩⟩
  rw [decide_eq_true (by omega)]
  exact .same h5
theorem hp_require_threads (K : PySem.W.Frag) : ∀ ds m R, sp_require_threads K ds m R → T_require_threads K (sp_are_threads K) (endsD m R) (startD ["value"] ds) m := by
  rintro ds m R ⟨ns, rfl, h1, h5⟩
  simp [T_require_threads, startD, sp_are_threads]
  exact ⟨ns, rfl, h1, .same h5⟩
theorem flat_map (bs : Bs) : (bs.map tI) = (bs.map fun b => b.map D.int).map D.tup := by
  rw [List.map_map]
  rfl
theorem flat_map2 (bs : Bs) : (bs.map fun b => b.map D.int).flatten = bs.flatten.map D.int := by
  rw [List.map_flatten]
theorem OkBs.len {bs : Bs} (h : OkBs bs) : bs.length ≤ 5 := by
  obtain ⟨h1, h2, h3, h4⟩ := h
  have : bs.length ≤ bs.flatten.length := by
    rw [List.length_flatten]
    clear h2 h3 h4
    induction bs with
    | nil => simp
    | cons b bs ih =>
      have := ih fun c hc => h1 c (List.mem_cons_of_mem _ hc)
      have := (h1 b List.mem_cons_self).2.2.1
      simp
      omega
  omega
theorem lc2_blocks {i j : Nat} {δ : DS} {m : Mu} {Rd : List D → Mu → Prop} (hi : i < δ.length) (hj : j < δ.length) (hij : i ≠ j) (bs : Bs) (hl : bs.flatten.length ≤ 1000) (h : Rd (bs.flatten.map .int) m) :
    lcL2 (dName i) dYes (dISeq (dVar i)) (dName j) dYes (dVar j) δ [j] (fun _ => True) Rd (bs.map tI) [] m := by
  rw [flat_map]
  refine lc2_flat hi hj hij trivial _ [] (by rw [flat_map2, List.length_map]; simp only [List.length_nil]; unfold sizeLine; omega) ?_
  rw [flat_map2]
  exact h
theorem hp_are_blocks (K : PySem.W.Frag) : ∀ ds m R, sp_are_blocks K ds m R → T_are_blocks K (sp_are_threads K) (endsD m R) (startD ["value", "found", "block", "thread"] ds) m := by
  rintro ds m R ⟨bs, rfl, ok, h5⟩
  have l1 := ok.len
  obtain ⟨h1, h2, h3, h4⟩ := ok
  simp [T_are_blocks, startD, tB]
  refine lcL_mapO (f := fun _ => .bl true) trivial bs [] (fun x hx A B hA => ?_) (by simp; unfold sizeLine; omega) ?_
  · simp [dwipe, sp_are_threads]
    exact ⟨x, rfl, h1 x hx, hA⟩
  · simp [dAll]
    refine ⟨bs.map fun _ => true, by simp [lsqOf, lstOf], .inr ⟨by simp, ?_⟩⟩
    refine lc2_blocks (by simp [dwipe]) (by simp [dwipe]) (by decide) bs (by omega) ?_
    simp only [List.length_map]
    refine .inr ⟨by omega, .inr ⟨by omega, bs.flatten, by simp [lsqOf, lstOf], h4, by omega, ?_⟩⟩
    rw [decide_eq_true (by rfl)]
    exact .same h5
theorem flat_obj (rs : List Bs) (K : PySem.W.Frag) : (D.tup (rs.map (rD K))) = .tup (rs.map (rD K)) := rfl
theorem hp_Round___init__ (K : PySem.W.Frag) : ∀ ds m R, sp_Round___init__ K ds m R → T_Round___init__ K (sp_are_blocks K) (endsD m R) (startD ["self", "blocks", "block", "thread"] ds) m := by
  rintro ds m R ⟨n, bs, rfl, hn, ok, h⟩
  have l1 := ok.len
  have hl : n < m.length := (List.getElem?_eq_some_iff.mp hn).1
  simp [T_Round___init__, startD, sp_are_blocks]
  refine ⟨bs, rfl, ok, _, hn, ?_⟩
  simp [tB]
  refine lc2_blocks (by simp [dwipe]) (by simp [dwipe]) (by decide) bs (by have := ok.2.2.1; omega) ?_
  simp [hl, lsqOf, lstOf, slotOf, putSD]
  refine ⟨bs.flatten, by rw [List.map_flatten], ?_⟩
  have e : ((rTh bs).length : Int) = (sortI bs.flatten).length := rfl
  by_cases hp : ((sortI bs.flatten).length - (bs.length : Int)) % 2 = 0
  · refine .inr ⟨hp, .same ?_⟩
    have : rSg bs = 1 := if_pos hp
    rw [this] at h
    exact h
  · refine .inl ⟨hp, .same ?_⟩
    have : rSg bs = -1 := if_neg hp
    rw [this] at h
    exact h
theorem shB (bs : Bs) : Dat 2 (tB bs) := Dat.tupM fun b => datI b
theorem hp_Round___eq__ (K : PySem.W.Frag) : ∀ ds m R, sp_Round___eq__ K ds m R → T_Round___eq__ K (endsD m R) (startD ["self", "other"] ds) m := by
  rintro ds m R ⟨bs, rfl, h⟩
  simp [T_Round___eq__, startD]
  refine ⟨(shB bs).sh (by decide), ?_⟩
  rw [eqD_refl (shB bs)]
  exact .same h
theorem hp_place_of (K : PySem.W.Frag) : ∀ ds m R, sp_place_of K ds m R → T_place_of K (endsD m R) (startD ["round_of", "thread"] ds) m := by
  rintro ds m R ⟨bs, t, rfl, ht, h⟩
  simp [T_place_of, startD, dNextIn]
  exact ⟨bs, by simp [tB, tI, seqOf, tupOf], ht, .same h⟩
theorem flat_take (bs : Bs) (n : Nat) : (bs.take n).flatten.length ≤ bs.flatten.length := by
  rw [List.length_flatten, List.length_flatten]
  induction bs generalizing n with
  | nil => simp
  | cons b bs ih =>
    cases n with
    | zero => simp
    | succ n => simp only [List.take_succ_cons, List.map_cons, List.sum_cons]; have := ih n; omega
theorem hp_seen_by (K : PySem.W.Frag) : ∀ ds m R, sp_seen_by K ds m R → T_seen_by K (sp_place_of K) (endsD m R) (startD ["round_of", "thread", "place", "block", "one"] ds) m := by
  rintro ds m R ⟨bs, t, rfl, ok, ht, h⟩
  simp [T_seen_by, startD, sp_place_of]
  refine ⟨bs, t, ⟨rfl, rfl⟩, ht, ?_⟩
  simp [tB]
  have e : ((plc bs t : Nat) : Int) + 1 = ((plc bs t + 1 : Nat) : Int) := by omega
  rw [e, cut_take, ← List.map_take]
  refine lc2_blocks (by simp [dwipe]) (by simp [dwipe]) (by decide) _ ?_ ?_
  · have := flat_take bs (plc bs t + 1)
    have := ok.2.2.1
    omega
  · exact ⟨_, rfl, .same h⟩
theorem hp_are_rounds (K : PySem.W.Frag) : ∀ ds m R, sp_are_rounds K ds m R → T_are_rounds K (endsD m R) (startD ["threads", "value", "one"] ds) m := by
  rintro ds m R ⟨ts, rs, rfl, ok, h⟩
  simp [T_are_rounds, startD]
  refine .inl ⟨by have := ok.1; omega, ?_⟩
  refine lcL_mapO (f := fun _ => .bl true) trivial rs [] (fun x hx A B hA => ?_) (by have := ok.1; simp; unfold sizeLine; omega) ?_
  · simp [dwipe]
    rw [(ok.2 x hx).2, decide_eq_true rfl]
    exact hA
  · simp
    refine ⟨rs.map fun _ => true, by simp [lsqOf, lstOf], ?_⟩
    have : ((rs.map fun _ => true).all id) = true := by simp
    rw [this]
    exact .same h
theorem hp_require_run (K : PySem.W.Frag) : ∀ ds m R, (∃ ts rs, ds = [uD K ts rs] ∧ R .non m) → T_require_run K (endsD m R) (startD ["value"] ds) m := by
  rintro ds m R ⟨ts, rs, rfl, h⟩
  simp [T_require_run, startD]
  exact .same h
end FN
set_option Elab.async false
set_option linter.all false
set_option maxRecDepth 100000
set_option maxHeartbeats 4000000
/-! P2: runs and texts -/
namespace FN
open PySem PySem.Spec PyProof.Rows L2 SlX DL
/-! ### texts -/
def nTx (n : Int) : Str := Str.ofString (toString n)
def tSp (ns : List Int) : Str := Txt.join " " (ns.map nTx)
def rTx (bs : Bs) : Str := Txt.join "|" (bs.map tSp)
def uTx (ts : List Int) (rs : List Bs) : Str := if rs = [] then ("none " : Str) ++ tSp ts else Txt.join ", " (rs.map rTx)
open TL (tl)
def Nn (n : Int) : Prop := 0 ≤ n ∧ n < big
theorem nTx_tl {n : Int} (h : 0 ≤ n) : tl (nTx n) = TL.numL n.toNat := by
  obtain ⟨k, rfl⟩ := Int.eq_ofNat_of_zero_le h
  exact TL.tl_num k
theorem numL_len60 {n : Int} (h : Nn n) : (TL.numL n.toNat).length ≤ 60 := TL.numL_len (by decide) (by
  obtain ⟨h1, h2⟩ := h
  unfold big at h2
  have : (10 : Nat) ^ 60 = 1000000000000000000000000000000000000000000000000000000000000 := by decide
  rw [this]
  omega)
theorem nTx_len {n : Int} (h : Nn n) : (nTx n).length ≤ 60 := by
  rw [TL.len_tl, nTx_tl h.1]; exact numL_len60 h
theorem log2_big {n : Int} (h : Nn n) : n.natAbs.log2 < 1920 := log2_lt (by
  obtain ⟨h1, h2⟩ := h
  unfold big at h2
  have : (1000000000000000000000000000000000000000000000000000000000000 : Nat) < 2 ^ 1920 := by decide +kernel
  omega) (by decide)
theorem tl_tSp (ns : List Int) : tl (tSp ns) = TL.joinL [32] (ns.map fun n => tl (nTx n)) := by
  unfold tSp
  rw [TL.join_eq, TL.tl_join, List.map_map]
  rfl
theorem nTx_free {n : Int} (h : 0 ≤ n) {s : Nat} (hs : s < 48 ∨ 57 < s) : s ∉ tl (nTx n) := by
  rw [nTx_tl h]; exact TL.numL_free hs
theorem mem_joinL {S : List Nat} {c : Nat} : ∀ {ps : List (List Nat)}, c ∈ TL.joinL S ps → c ∈ S ∨ ∃ p ∈ ps, c ∈ p
  | [], h => absurd h (by simp [TL.joinL])
  | [p], h => .inr ⟨p, List.mem_singleton_self p, by simpa [TL.joinL] using h⟩
  | p :: q :: r, h => by
    have h' : c ∈ p ++ (S ++ TL.joinL S (q :: r)) := by simpa [TL.joinL, List.append_assoc] using h
    rcases List.mem_append.mp h' with h1 | h1
    · exact .inr ⟨p, List.mem_cons_self, h1⟩
    · rcases List.mem_append.mp h1 with h2 | h2
      · exact .inl h2
      · rcases mem_joinL h2 with h3 | ⟨x, hx, hc⟩
        · exact .inl h3
        · exact .inr ⟨x, List.mem_cons_of_mem _ hx, hc⟩
theorem tSp_free {ns : List Int} (h : ∀ n ∈ ns, 0 ≤ n) {s : Nat} (hs : s < 48 ∨ 57 < s) (h2 : s ≠ 32) : s ∉ tl (tSp ns) := by
  rw [tl_tSp]
  intro hm
  rcases mem_joinL hm with h3 | ⟨p, hp, hc⟩
  · simp at h3; exact h2 h3
  · obtain ⟨n, hn, rfl⟩ := List.mem_map.mp hp
    exact nTx_free (h n hn) hs hc
theorem tl_rTx (bs : Bs) : tl (rTx bs) = TL.joinL [124] (bs.map fun b => tl (tSp b)) := by
  unfold rTx
  rw [TL.join_eq, TL.tl_join, List.map_map]
  rfl
theorem rTx_free {bs : Bs} (h : ∀ b ∈ bs, ∀ n ∈ b, 0 ≤ n) {s : Nat} (hs : s < 48 ∨ 57 < s) (h2 : s ≠ 32) (h3 : s ≠ 124) : s ∉ tl (rTx bs) := by
  rw [tl_rTx]
  intro hm
  rcases mem_joinL hm with h4 | ⟨p, hp, hc⟩
  · simp at h4; exact h3 h4
  · obtain ⟨b, hb, rfl⟩ := List.mem_map.mp hp
    exact tSp_free (h b hb) hs h2 hc
theorem joinL_len {S : List Nat} {k : Nat} : ∀ {ps : List (List Nat)}, (∀ p ∈ ps, p.length ≤ k) → (TL.joinL S ps).length ≤ ps.length * (k + S.length)
  | [], _ => by simp [TL.joinL]
  | [p], h => by have := h p List.mem_cons_self; simp [TL.joinL]; omega
  | p :: q :: r, h => by
    have h1 := joinL_len (S := S) (k := k) (ps := q :: r) fun x hx => h x (List.mem_cons_of_mem _ hx)
    have h2 := h p List.mem_cons_self
    have : TL.joinL S (p :: q :: r) = p ++ (S ++ TL.joinL S (q :: r)) := by simp [TL.joinL, List.append_assoc]
    rw [this, List.length_append, List.length_append, List.length_cons, Nat.succ_mul]
    omega
theorem tSp_len {ns : List Int} (h : ∀ n ∈ ns, Nn n) : (tSp ns).length ≤ ns.length * 61 := by
  rw [TL.len_tl]
  show (tl (tSp ns)).length ≤ _
  rw [tl_tSp]
  have := joinL_len (S := [32]) (k := 60) (ps := ns.map fun n => tl (nTx n)) (fun p hp => by
    obtain ⟨n, hn, rfl⟩ := List.mem_map.mp hp
    rw [nTx_tl (h n hn).1]; exact numL_len60 (h n hn))
  simpa using this
theorem rTx_len {bs : Bs} (h : OkBs bs) : (rTx bs).length ≤ 5 * 306 := by
  rw [TL.len_tl]
  show (tl (rTx bs)).length ≤ _
  rw [tl_rTx]
  have := joinL_len (S := [124]) (k := 305) (ps := bs.map fun b => tl (tSp b)) (fun p hp => by
    obtain ⟨b, hb, rfl⟩ := List.mem_map.mp hp
    have h1 := tSp_len (ns := b) (h.1 b hb).2.1
    have h2 := (h.1 b hb).2.2.2
    rw [TL.len_tl] at h1
    exact Nat.le_trans h1 (by omega))
  have h2 := h.len
  simp only [List.length_map, List.length_singleton] at this
  exact Nat.le_trans this (by omega)
theorem uTx_len {ts : List Int} {rs : List Bs} (h1 : OkTh ts) (h : OkRs ts rs) : (uTx ts rs).length ≤ 10000 := by
  unfold uTx
  split
  · rw [Str.length_append]
    have := tSp_len (ns := ts) h1.2.1
    have := h1.2.2.2
    have : ("none " : Str).length = 5 := by decide
    omega
  · rw [TL.len_tl, TL.join_eq, TL.tl_join]
    have := joinL_len (S := tl ", ") (k := 1530) (ps := (rs.map rTx).map tl) (fun p hp => by
      rw [List.map_map] at hp
      obtain ⟨b, hb, rfl⟩ := List.mem_map.mp hp
      have h1 := rTx_len (h.2 b hb).1
      rw [TL.len_tl] at h1
      exact h1)
    have h2 := h.1
    have h3 : (tl ", ").length = 2 := by decide
    simp only [List.length_map, h3] at this
    show (TL.joinL (tl ", ") ((rs.map rTx).map tl)).length ≤ _
    exact Nat.le_trans this (by omega)
theorem split_tSp {ns : List Int} (h : ∀ n ∈ ns, 0 ≤ n) (hne : ns ≠ []) : Txt.split (tSp ns) " " = ns.map nTx := by
  unfold tSp
  exact TL.split_join (y := " ") (s := 32) (S := []) (by decide) (by decide +kernel) (parts := ns.map nTx) (by simpa using hne) fun p hp => by
    obtain ⟨n, hn, rfl⟩ := List.mem_map.mp hp
    exact nTx_free (h n hn) (by decide)
theorem split_rTx {bs : Bs} (h : ∀ b ∈ bs, ∀ n ∈ b, 0 ≤ n) (hne : bs ≠ []) : Txt.split (rTx bs) "|" = bs.map tSp := by
  unfold rTx
  exact TL.split_join (y := "|") (s := 124) (S := []) (by decide) (by decide +kernel) (parts := bs.map tSp) (by simpa using hne) fun p hp => by
    obtain ⟨n, hn, rfl⟩ := List.mem_map.mp hp
    exact tSp_free (h n hn) (by decide) (by decide)
theorem split_uTx {rs : List Bs} (h : ∀ r ∈ rs, ∀ b ∈ r, ∀ n ∈ b, 0 ≤ n) (hne : rs ≠ []) : Txt.split (Txt.join ", " (rs.map rTx)) ", " = rs.map rTx := by
  exact TL.split_join (y := ", ") (s := 44) (S := [32]) (by decide) (by decide +kernel) (parts := rs.map rTx) (by simpa using hne) fun p hp => by
    obtain ⟨n, hn, rfl⟩ := List.mem_map.mp hp
    exact rTx_free (h n hn) (by decide) (by decide) (by decide)
/-! ### promises: texts -/
def sp_Round___str__ (K : PySem.W.Frag) : DRs := fun ds m R => ∃ bs : Bs, ds = [rD K bs] ∧ OkBs bs ∧ R (.str (rTx bs)) m
def sp_is_number_text (K : PySem.W.Frag) : DRs := fun ds m R => ∃ n : Int, ds = [.str (nTx n)] ∧ Nn n ∧ R (.bl true) m
def sp_are_number_texts (K : PySem.W.Frag) : DRs := fun ds m R => ∃ ns : List Int, ds = [.str (tSp ns)] ∧ OkTh ns ∧ R (.bl true) m
def sp_numbers_in (K : PySem.W.Frag) : DRs := fun ds m R => ∃ ns : List Int, ds = [.str (tSp ns)] ∧ OkTh ns ∧ R (tI ns) m
def sp_names_text (K : PySem.W.Frag) : DRs := fun ds m R => ∃ ns : List Int, ds = [tI ns] ∧ OkTh ns ∧ R (.str (tSp ns)) m
def sp_run_text (K : PySem.W.Frag) : DRs := fun ds m R => ∃ (ts : List Int) (rs : List Bs), ds = [uD K ts rs] ∧ OkTh ts ∧ OkRs ts rs ∧ R (.str (uTx ts rs)) m
def sp_write_run (K : PySem.W.Frag) : DRs := sp_run_text K
def sp_require_run (K : PySem.W.Frag) : DRs := fun ds m R => ∃ ts rs, ds = [uD K ts rs] ∧ R .non m
def sp_require_text (K : PySem.W.Frag) : DRs := fun ds m R => ∃ x, ds = [.str x] ∧ R .non m
def sp_require_pieces (K : PySem.W.Frag) : DRs := fun ds m R => ∃ n : Nat, ds = [.lst (List.replicate n (.bl true))] ∧ hasT (tbP K "require_pieces") m ∧ R .non m
def sp_is_round_text (K : PySem.W.Frag) : DRs := fun ds m R => ∃ bs : Bs, ds = [.str (rTx bs)] ∧ OkBs bs ∧ R (.bl true) m
def sp_made_round (K : PySem.W.Frag) : DRs := fun ds m R => ∃ bs : Bs, ds = [.str (rTx bs)] ∧ OkBs bs ∧ R (rD K bs) m
def sp_require_found (K : PySem.W.Frag) : DRs := fun ds m R => ∃ ts rs, ds = [uD K ts rs] ∧ R .non m
def mk_Run (K : PySem.W.Frag) : DRs := fun ds m R => ∃ (ts : List Int) (rs : List Bs), ds = [tI ts, .tup (rs.map (rD K))] ∧ OkTh ts ∧ OkRs ts rs ∧ R (uD K ts rs) m
def sp_made_run (K : PySem.W.Frag) : DRs := fun ds m R => ∃ (ts : List Int) (rs : List Bs), ds = [.tup (rs.map (rD K))] ∧ OkTh ts ∧ OkRs ts rs ∧ rs ≠ [] ∧ R (uD K ts rs) m
def sp_read_run (K : PySem.W.Frag) : DRs := fun ds m R => ∃ (ts : List Int) (rs : List Bs), ds = [.str (uTx ts rs)] ∧ OkTh ts ∧ OkRs ts rs ∧ hasT (tbP K "require_pieces") m ∧ R (uD K ts rs) m
/-! ### promises: runs -/
def sp_Run___init__ (K : PySem.W.Frag) : DRs := fun ds m R => ∃ (n : Nat) (ts : List Int) (rs : List Bs), ds = [.ref n, tI ts, .tup (rs.map (rD K))] ∧ m[n]? = some (.slt (ga K "Run") []) ∧ OkTh ts ∧ OkRs ts rs ∧
  R .non (m.set n (.slt (ga K "Run") [some (.tup (rs.map (rD K))), some (.int (uSg rs)), some (tI ts)]))
def sp_Run___getitem__ (K : PySem.W.Frag) : DRs := fun ds m R => ∃ (ts : List Int) (rs : List Bs) (i : Nat) (r : Bs), ds = [uD K ts rs, .int i] ∧ rs.length ≤ 6 ∧ rs[i]? = some r ∧ R (rD K r) m
def sp_Run___len__ (K : PySem.W.Frag) : DRs := fun ds m R => ∃ (ts : List Int) (rs : List Bs), ds = [uD K ts rs] ∧ R (.int rs.length) m
def sp_Run___eq__ (K : PySem.W.Frag) : DRs := fun ds m R => ∃ (ts : List Int) (rs : List Bs), ds = [uD K ts rs, uD K ts rs] ∧ rs.length ≤ 6 ∧ R (.bl true) m
/-! ### plain proofs -/
theorem sum_le {k : Nat} : ∀ {xs : List Nat}, (∀ x ∈ xs, x ≤ k) → xs.sum ≤ xs.length * k
  | [], _ => by simp
  | x :: xs, h => by
    have := sum_le (k := k) (xs := xs) fun y hy => h y (List.mem_cons_of_mem _ hy)
    have := h x List.mem_cons_self
    rw [List.sum_cons, List.length_cons, Nat.succ_mul]
    omega
theorem l1 : (" " : Str).length = 1 := by decide +kernel
theorem l2 : ("|" : Str).length = 1 := by decide +kernel
theorem l3 : (", " : Str).length = 2 := by decide +kernel
theorem l4 : ("none " : Str).length = 5 := by decide +kernel
theorem tSp_sum {ns : List Int} (h : OkTh ns) : ((ns.map nTx).map (·.length)).sum + (ns.map nTx).length * (" " : Str).length ≤ 16777216 := by
  have := sum_le (k := 60) (xs := (ns.map nTx).map (·.length)) (fun x hx => by
    rw [List.map_map] at hx
    obtain ⟨n, hn, rfl⟩ := List.mem_map.mp hx
    exact nTx_len (h.2.1 n hn))
  rw [l1]
  simp only [List.length_map] at this ⊢
  have := h.2.2.2
  omega
theorem hp_Round___str__ (K : PySem.W.Frag) : ∀ ds m R, sp_Round___str__ K ds m R → T_Round___str__ K (endsD m R) (startD ["self", "one", "block"] ds) m := by
  rintro ds m R ⟨bs, rfl, ok, h⟩
  simp [T_Round___str__, startD, tyD, tB]
  refine lcL_mapO (f := fun b => .str (tSp b)) trivial bs [] (fun b hb A B hA => ?_) (by have := ok.len; simp; unfold sizeLine; omega) ?_
  · simp [dwipe]
    simp [tI]
    refine lcL_mapO (f := fun n => .str (nTx n)) trivial b [] (fun x hx A B hA => ?_) (by have := (ok.1 b hb).2.2.2; simp; unfold sizeLine; omega) ?_
    · simp [dwipe]
      exact ⟨log2_big ((ok.1 b hb).2.1 x hx), hA⟩
    · simp
      exact ⟨b.map nTx, by simp, tSp_sum (ok.1 b hb), hA⟩
  · simp
    refine ⟨bs.map tSp, by simp, ?_, .same h⟩
    have := sum_le (k := 305) (xs := (bs.map tSp).map (·.length)) (fun x hx => by
      rw [List.map_map] at hx
      obtain ⟨b, hb, rfl⟩ := List.mem_map.mp hx
      have h1 := tSp_len (ns := b) (ok.1 b hb).2.1
      have h2 := (ok.1 b hb).2.2.2
      simp only [Function.comp]
      omega)
    rw [l2]
    simp only [List.length_map] at this ⊢
    have := ok.len
    omega
theorem all_true {α : Type} (xs : List α) : (xs.map fun _ => true).all id = true := by simp
theorem dig_mem {c : Nat} (h : 48 ≤ c ∧ c ≤ 57) : c ∈ ("0123456789" : Str).cps.toList := by
  have : ("0123456789" : Str).cps.toList = [48, 49, 50, 51, 52, 53, 54, 55, 56, 57] := by decide +kernel
  rw [this]
  simp
  omega
theorem num_head {n : Int} (h : 0 ≤ n) (hz : nTx n ≠ "0") : ∃ c r, tl (nTx n) = c :: r ∧ c ≠ 48 := by
  rw [nTx_tl h]
  have h1 : n.toNat ≠ 0 := fun z => hz (TL.ext_tl (by
    rw [nTx_tl h, z]
    decide +kernel))
  have key : ∀ k : Nat, k ≠ 0 → ∃ c r, TL.numL k = c :: r ∧ c ≠ 48 := by
    intro k
    induction k using Nat.strongRecOn with
    | ind k ih =>
      intro hk
      by_cases h10 : k < 10
      · rw [TL.numL_lt h10]
        exact ⟨48 + k, [], rfl, by omega⟩
      · rw [TL.numL_step (by omega)]
        obtain ⟨c, r, e, hc⟩ := ih (k / 10) (by omega) (by omega)
        exact ⟨c, r ++ [48 + k % 10], by rw [e]; rfl, hc⟩
  exact key _ h1
theorem OkBs.ne {bs : Bs} (h : OkBs bs) : bs ≠ [] := fun e => by
  have := h.2.1
  rw [e] at this
  simp at this
theorem OkTh.ne {ns : List Int} (h : OkTh ns) : ns ≠ [] := fun e => by
  have := h.2.2.1
  rw [e] at this
  simp at this
theorem joinL_ne {S : List Nat} : ∀ {ps : List (List Nat)}, ps ≠ [] → (∀ p ∈ ps, p ≠ []) → TL.joinL S ps ≠ []
  | [], h, _ => absurd rfl h
  | [p], _, h => by simpa [TL.joinL] using h p List.mem_cons_self
  | p :: q :: r, _, h => by
    have := h p List.mem_cons_self
    simp [TL.joinL, this]
theorem tSp_ne {ns : List Int} (h : OkTh ns) : tl (tSp ns) ≠ [] := by
  rw [tl_tSp]
  refine joinL_ne (by simpa using h.ne) fun p hp => ?_
  obtain ⟨n, hn, rfl⟩ := List.mem_map.mp hp
  rw [nTx_tl (h.2.1 n hn).1]
  exact TL.numL_ne _
theorem rTx_ne {bs : Bs} (h : OkBs bs) : tl (rTx bs) ≠ [] := by
  rw [tl_rTx]
  refine joinL_ne (by simpa using h.ne) fun p hp => ?_
  obtain ⟨n, hn, rfl⟩ := List.mem_map.mp hp
  exact tSp_ne (h.1 n hn)
theorem join_ne {ts : List Int} {rs : List Bs} (hr : OkRs ts rs) (hz : rs ≠ []) : (Txt.join ", " (rs.map rTx)).length ≠ 0 := by
  rw [TL.len_tl, TL.join_eq, TL.tl_join]
  intro e
  refine joinL_ne (S := tl ", ") (ps := (rs.map rTx).map tl) (by simpa using hz) (fun p hp => ?_) (List.length_eq_zero_iff.mp e)
  rw [List.map_map] at hp
  obtain ⟨n, hn, rfl⟩ := List.mem_map.mp hp
  exact rTx_ne (hr.2 n hn).1
theorem sgn_tl (x : Str) : sgnD x = (tl x).map fun c => .str ⟨#[c]⟩ := rfl
theorem hp_is_number_text (K : PySem.W.Frag) : ∀ ds m R, sp_is_number_text K ds m R → T_is_number_text K (endsD m R) (startD ["text", "digit"] ds) m := by
  rintro ds m R ⟨n, rfl, hn, h⟩
  have e := nTx_tl hn.1
  have hd := TL.numL_digits n.toNat
  have hne := TL.numL_ne n.toNat
  have hl := nTx_len hn
  simp [T_is_number_text, startD]
  refine .inr ⟨fun z => ?_, ?_⟩
  · rw [z] at e
    exact hne (e.symm.trans (by decide))
  · rw [sgn_tl, e]
    refine lcL_mapO (f := fun _ => .bl true) trivial _ [] (fun c hc A B hA => ?_) (by rw [← e, ← TL.len_tl]; simp; unfold sizeLine; omega) ?_
    · have := hd c hc
      simp [dwipe]
      rw [show decide (c ∈ ("0123456789" : Str).cps) = true by
        exact decide_eq_true (Array.mem_toList_iff.mp (dig_mem this))]
      exact hA
    · simp
      refine ⟨(TL.numL n.toNat).map fun _ => true, by simp [lsqOf, lstOf], .inr ⟨by simp, ?_⟩⟩
      by_cases hz : nTx n = "0"
      · exact .inr ⟨hz, .same h⟩
      · refine .inl ⟨hz, ?_⟩
        obtain ⟨c, r, ec, hc⟩ := num_head hn.1 hz
        refine ⟨.str ⟨#[c]⟩, ?_, ?_⟩
        · unfold ixD
          simp only
          rw [if_pos (by unfold sizeLine; omega)]
          have : (nTx n).cps.toList = c :: r := ec
          rw [this]
          simp [atI, ixN]
        · rw [s_dNeS, show (!decide ((⟨#[c]⟩ : Str) = "0")) = true by
            have : (⟨#[c]⟩ : Str) ≠ "0" := fun z => hc (by
              have := congrArg tl z
              have e2 : tl ("0" : Str) = [48] := by decide
              rw [e2] at this
              simpa [TL.tl_mk] using this)
            simp [this]]
          exact .same h
theorem hp_are_number_texts (K : PySem.W.Frag) : ∀ ds m R, sp_are_number_texts K ds m R → T_are_number_texts K (sp_is_number_text K) (endsD m R) (startD ["text", "word"] ds) m := by
  rintro ds m R ⟨ns, rfl, hn, h⟩
  have hne : ns ≠ [] := fun e => by have := hn.2.2.1; rw [e] at this; simp at this
  have hl := tSp_len hn.2.1
  simp [T_are_number_texts, startD]
  refine ⟨by rw [l1]; decide, by have := hn.2.2.2; unfold sizeLine; omega, ?_⟩
  rw [split_tSp (fun n h => (hn.2.1 n h).1) hne, List.map_map]
  refine lcL_mapO (f := fun _ => .bl true) trivial ns [] (fun x hx A B hA => ?_) (by have := hn.2.2.2; simp; unfold sizeLine; omega) ?_
  · simp [dwipe, sp_is_number_text]
    exact ⟨x, rfl, hn.2.1 x hx, hA⟩
  · simp
    refine ⟨ns.map fun _ => true, by simp [lsqOf, lstOf], ?_⟩
    rw [all_true]
    exact .same h
theorem hp_numbers_in (K : PySem.W.Frag) : ∀ ds m R, sp_numbers_in K ds m R → T_numbers_in K (endsD m R) (startD ["text", "word"] ds) m := by
  rintro ds m R ⟨ns, rfl, hn, h⟩
  have hne : ns ≠ [] := fun e => by have := hn.2.2.1; rw [e] at this; simp at this
  have hl := tSp_len hn.2.1
  simp [T_numbers_in, startD]
  refine ⟨by rw [l1]; decide, by have := hn.2.2.2; unfold sizeLine; omega, ?_⟩
  rw [split_tSp (fun n h => (hn.2.1 n h).1) hne, List.map_map]
  refine lcL_mapO (f := fun n => .int n) trivial ns [] (fun x hx A B hA => ?_) (by have := hn.2.2.2; simp; unfold sizeLine; omega) ?_
  · have hx' := hn.2.1 x hx
    simp [dwipe]
    refine ⟨x, ?_, by have := nTx_len hx'; omega, hA⟩
    obtain ⟨k, rfl⟩ := Int.eq_ofNat_of_zero_le hx'.1
    refine TL.int_num (n := k) ?_
    have := numL_len60 hx'
    simp only [Int.ofNat_eq_natCast, Int.toNat_natCast] at this
    omega
  · simp
    exact .same h
theorem hp_names_text (K : PySem.W.Frag) : ∀ ds m R, sp_names_text K ds m R → T_names_text K (endsD m R) (startD ["names", "name"] ds) m := by
  rintro ds m R ⟨ns, rfl, hn, h⟩
  simp [T_names_text, startD, tyD, tI]
  refine lcL_mapO (f := fun n => .str (nTx n)) trivial ns [] (fun x hx A B hA => ?_) (by have := hn.2.2.2; simp; unfold sizeLine; omega) ?_
  · simp [dwipe]
    exact ⟨log2_big (hn.2.1 x hx), hA⟩
  · simp
    exact ⟨ns.map nTx, by simp, tSp_sum hn, .same h⟩
theorem hp_run_text (K : PySem.W.Frag) : ∀ ds m R, sp_run_text K ds m R → T_run_text K (sp_Round___str__ K) (sp_names_text K) (endsD m R) (startD ["run", "one"] ds) m := by
  rintro ds m R ⟨ts, rs, rfl, ht, hr, h⟩
  simp [T_run_text, startD]
  refine lcL_mapO (f := fun b => .str (rTx b)) trivial rs [] (fun b hb A B hA => ?_) (by have := hr.1; simp; unfold sizeLine; omega) ?_
  · simp [dwipe, sp_Round___str__]
    exact ⟨b, rfl, (hr.2 b hb).1, hA⟩
  · simp
    refine ⟨rs.map rTx, by simp, ?_, ?_⟩
    · have := sum_le (k := 1530) (xs := (rs.map rTx).map (·.length)) (fun x hx => by
        rw [List.map_map] at hx
        obtain ⟨b, hb, rfl⟩ := List.mem_map.mp hx
        exact rTx_len (hr.2 b hb).1)
      rw [l3]
      simp only [List.length_map] at this ⊢
      have := hr.1
      omega
    · by_cases hz : rs = []
      · subst hz
        refine .inl ⟨by rfl, ts, rfl, ht, ?_⟩
        show dAdd (D.str ("none " : Str)) (D.str (tSp ts)) m (DL.Fin m R)
        rw [s_dAdd_s]
        refine ⟨?_, .same h⟩
        have := tSp_len ht.2.1
        have := ht.2.2.2
        rw [l4]; unfold sizeLine; omega
      · have e : uTx ts rs = Txt.join ", " (rs.map rTx) := if_neg hz
        rw [← e]
        refine .inr ⟨?_, .same h⟩
        have h1 := uTx_len ht hr
        have h2 : (uTx ts rs).length ≠ 0 := by
          rw [e]; exact join_ne hr hz
        show (if (uTx ts rs).length ≤ sizeLine then _ else _) = _
        rw [if_pos (by unfold sizeLine; omega)]
        simp [h2]
theorem hp_write_run (K : PySem.W.Frag) : ∀ ds m R, sp_write_run K ds m R → T_write_run K (sp_require_run K) (sp_run_text K) (endsD m R) (startD ["run"] ds) m := by
  rintro ds m R ⟨ts, rs, rfl, ht, hr, h⟩
  simp [T_write_run, startD, sp_require_run, sp_run_text]
  exact ⟨⟨ts, rs, rfl⟩, ts, rs, rfl, ht, hr, .same h⟩
theorem hp_require_text (K : PySem.W.Frag) : ∀ ds m R, sp_require_text K ds m R → T_require_text K (endsD m R) (startD ["text"] ds) m := by
  rintro ds m R ⟨x, rfl, h⟩
  simp [T_require_text, startD]
  exact .same h
theorem hp_require_pieces (K : PySem.W.Frag) : ∀ ds m R, sp_require_pieces K ds m R → T_require_pieces K (endsD m R) (startD ["rights", "wrong"] ds) m := by
  rintro ds m R ⟨n, rfl, ht, h⟩
  simp [T_require_pieces, startD, dNextNot]
  refine ⟨List.replicate n true, by simp, ht, ?_⟩
  have : (List.replicate n true).findIdx? (fun b => !b) = none := by simp
  rw [this]
  simp
  exact .same h
theorem hp_is_round_text (K : PySem.W.Frag) : ∀ ds m R, sp_is_round_text K ds m R → T_is_round_text K (sp_are_number_texts K) (endsD m R) (startD ["text", "piece"] ds) m := by
  rintro ds m R ⟨bs, rfl, ok, h⟩
  have hl := rTx_len ok
  have hb := ok.len
  simp [T_is_round_text, startD]
  refine ⟨by rw [l2]; decide, by unfold sizeLine; omega, ?_⟩
  rw [split_rTx (fun b hb n hn => ((ok.1 b hb).2.1 n hn).1) ok.ne, List.map_map]
  refine lcL_mapO (f := fun _ => .bl true) trivial bs [] (fun x hx A B hA => ?_) (by simp; unfold sizeLine; omega) ?_
  · simp [dwipe, sp_are_number_texts]
    exact ⟨x, rfl, ok.1 x hx, hA⟩
  · simp
    refine ⟨bs.map fun _ => true, by simp [lsqOf, lstOf], ?_⟩
    rw [all_true]
    exact .same h
theorem hp_made_round (K : PySem.W.Frag) : ∀ ds m R, sp_made_round K ds m R → T_made_round K (mk_Round K) (sp_numbers_in K) (endsD m R) (startD ["text", "piece"] ds) m := by
  rintro ds m R ⟨bs, rfl, ok, h⟩
  have hl := rTx_len ok
  have hb := ok.len
  simp [T_made_round, startD]
  refine ⟨by rw [l2]; decide, by unfold sizeLine; omega, ?_⟩
  rw [split_rTx (fun b hb n hn => ((ok.1 b hb).2.1 n hn).1) ok.ne, List.map_map]
  refine lcL_mapO (f := fun b => tI b) trivial bs [] (fun x hx A B hA => ?_) (by simp; unfold sizeLine; omega) ?_
  · simp [dwipe, sp_numbers_in]
    exact ⟨x, rfl, ok.1 x hx, hA⟩
  · simp
    exact ⟨bs, rfl, ok, .same h⟩
theorem hp_require_found (K : PySem.W.Frag) : ∀ ds m R, sp_require_found K ds m R → T_require_found K (endsD m R) (startD ["found"] ds) m := by
  rintro ds m R ⟨ts, rs, rfl, h⟩
  simp [T_require_found, startD]
  exact ⟨rfl, .same h⟩
theorem hp_made_run (K : PySem.W.Frag) : ∀ ds m R, sp_made_run K ds m R → T_made_run K (mk_Run K) (endsD m R) (startD ["rounds", "threads", "one"] ds) m := by
  rintro ds m R ⟨ts, rs, rfl, ht, hr, hne, h⟩
  simp [T_made_run, startD]
  refine .inl ⟨by have := hr.1; omega, ?_⟩
  refine lcL_mapO (f := fun _ => .bl true) trivial rs [] (fun x hx A B hA => ?_) (by have := hr.1; simp; unfold sizeLine; omega) ?_
  · simp [dwipe]
    exact hA
  · simp
    refine ⟨rs.map fun _ => true, by simp [lsqOf, lstOf], .inr ⟨by simp, ?_⟩⟩
    match rs, hne, hr with
    | r :: rs', _, hr =>
      refine ⟨rD K r, by simp [ixD, atI, ixN], _, r_slot3 r, ?_⟩
      rw [(hr.2 r List.mem_cons_self).2]
      refine lcL_mapO (f := fun _ => .bl true) trivial (r :: rs') [] (fun x hx A B hA => ?_) (by have := hr.1; simp at *; unfold sizeLine; omega) ?_
      · simp [dwipe]
        rw [(hr.2 x hx).2, decide_eq_true rfl]
        exact hA
      · refine ⟨(r :: rs').map fun _ => true, by simp [lsqOf, lstOf], .inr ⟨by simp, ts, r :: rs', rfl, ht, hr, .same h⟩⟩
theorem tl_cut_to (z : Str) (k : Nat) : tl (cutS z none (some (k : Int))) = (tl z).take k := by
  unfold cutS
  rw [TL.tl_mk, HT.sIx_nat, HT.sIx_none, List.drop_zero, Nat.sub_zero]
  by_cases h : k ≤ z.length
  · rw [Nat.min_eq_left h]
  · rw [Nat.min_eq_right (by omega), TL.len_tl]
    have : (tl z).length = z.length := (TL.len_tl z).symm
    show (tl z).take (tl z).length = _
    rw [List.take_of_length_le (Nat.le_refl _), List.take_of_length_le (by omega)]
theorem tl_cut_from (z : Str) (k : Nat) : tl (cutS z (some (k : Int)) none) = (tl z).drop k := by
  unfold cutS
  rw [TL.tl_mk, HT.sIx_nat, HT.sIx_none]
  have e : (tl z).length = z.length := (TL.len_tl z).symm
  show ((tl z).drop _).take _ = _
  by_cases h : k ≤ z.length
  · rw [Nat.min_eq_left h, List.take_of_length_le (by rw [List.length_drop]; omega)]
  · rw [Nat.min_eq_right (by omega), Nat.sub_self, List.take_zero, List.drop_eq_nil_of_le (by omega)]
theorem none_tl : tl ("none " : Str) = [110, 111, 110, 101, 32] := by decide +kernel
theorem cut_none_to (x : Str) : cutS (("none " : Str) ++ x) none (some 5) = "none " := TL.ext_tl (by
  have := tl_cut_to (("none " : Str) ++ x) 5
  rw [TL.tl_append, none_tl] at this
  rw [none_tl]
  exact this)
theorem cut_none_from (x : Str) : cutS (("none " : Str) ++ x) (some 5) none = x := TL.ext_tl (by
  have := tl_cut_from (("none " : Str) ++ x) 5
  rw [TL.tl_append, none_tl] at this
  exact this)
theorem joinL_head {S p : List Nat} {c : Nat} : ∀ {ps : List (List Nat)}, ∃ r, TL.joinL S ((c :: p) :: ps) = c :: r
  | [] => ⟨p, rfl⟩
  | q :: r => ⟨_, by simp [TL.joinL]; rfl⟩
theorem tSp_head {ns : List Int} (h : OkTh ns) : ∃ c r, tl (tSp ns) = c :: r ∧ c ≤ 57 := by
  rw [tl_tSp]
  match ns, h with
  | n :: ns, h =>
    have hd := TL.numL_digits n.toNat
    have e := nTx_tl (h.2.1 n List.mem_cons_self).1
    cases e2 : TL.numL n.toNat with
    | nil => exact absurd e2 (TL.numL_ne _)
    | cons c r =>
      rw [e2] at hd
      obtain ⟨q, hq⟩ := joinL_head (S := [32]) (p := r) (c := c) (ps := ns.map fun n => tl (nTx n))
      refine ⟨c, q, ?_, (hd c List.mem_cons_self).2⟩
      rw [List.map_cons, e, e2, hq]
  | [], h => exact absurd rfl h.ne
theorem rTx_head {bs : Bs} (h : OkBs bs) : ∃ c r, tl (rTx bs) = c :: r ∧ c ≤ 57 := by
  rw [tl_rTx]
  match bs, h with
  | b :: bs, h =>
    obtain ⟨c, r, e, hc⟩ := tSp_head (h.1 b List.mem_cons_self)
    obtain ⟨q, hq⟩ := joinL_head (S := [124]) (p := r) (c := c) (ps := bs.map fun n => tl (tSp n))
    refine ⟨c, q, ?_, hc⟩
    rw [List.map_cons, e, hq]
  | [], h => exact absurd rfl h.ne
theorem cut_rounds {ts : List Int} {rs : List Bs} (hr : OkRs ts rs) (hne : rs ≠ []) : cutS (uTx ts rs) none (some 5) ≠ "none " := fun z => by
  have e : uTx ts rs = Txt.join ", " (rs.map rTx) := if_neg hne
  have h1 := tl_cut_to (uTx ts rs) 5
  have h2 := congrArg tl z
  rw [none_tl] at h2
  have h3 := h1.symm.trans h2
  rw [e, TL.join_eq, TL.tl_join] at h3
  match rs, hne, hr with
  | r :: rs', _, hr =>
    obtain ⟨c, q, e1, hc⟩ := rTx_head (hr.2 r List.mem_cons_self).1
    obtain ⟨q', hq⟩ := joinL_head (S := tl ", ") (p := q) (c := c) (ps := (rs'.map rTx).map tl)
    rw [List.map_cons, List.map_cons, e1, hq] at h3
    simp at h3
    omega
theorem len_none {m : Mu} : lenOf m (D.str ("none " : Str)) = some 5 := by
  show (if ("none " : Str).length ≤ sizeLine then some ("none " : Str).length else none) = _
  rw [l4, if_pos (by decide)]
theorem hp_read_run (K : PySem.W.Frag) : ∀ ds m R, sp_read_run K ds m R → T_read_run K (sp_require_text K) (sp_require_pieces K) (sp_are_number_texts K) (sp_numbers_in K) (sp_are_threads K) (mk_Run K) (sp_is_round_text K) (sp_made_run K) (sp_made_round K) (sp_require_found K) (endsD m R) (startD ["text", "threads", "found", "pieces", "piece"] ds) m := by
  rintro ds m R ⟨ts, rs, rfl, ht, hr, hq, h⟩
  have hl := uTx_len ht hr
  simp [T_read_run, startD, sp_require_text]
  refine ⟨5, len_none, by unfold sizeLine; omega, ?_⟩
  by_cases hz : rs = []
  · subst hz
    have e : uTx ts [] = ("none " : Str) ++ tSp ts := rfl
    refine .inr ⟨by rw [e]; exact cut_none_to _, 5, len_none, by unfold sizeLine; omega, ?_⟩
    have e2 : cutS (uTx ts []) (some ((5 : Nat) : Int)) none = tSp ts := cut_none_from _
    rw [e2]
    refine ⟨ts, rfl, ht, by decide, 1, rfl, hq, 5, len_none, by unfold sizeLine; omega, ?_⟩
    refine ⟨ts, by rw [e2], ht, ts, rfl, ht, .inr ⟨rfl, ts, [], rfl, ht, hr, ts, [], rfl, .same h⟩⟩
  · refine .inl ⟨cut_rounds hr hz, by rw [l3]; decide, by unfold sizeLine; omega, ?_⟩
    have e : uTx ts rs = Txt.join ", " (rs.map rTx) := if_neg hz
    rw [e, split_uTx (fun r hr' b hb n hn => (((hr.2 r hr').1.1 b hb).2.1 n hn).1) hz]
    rw [List.map_map]
    refine lcL_mapO (f := fun _ => .bl true) trivial rs [] (fun x hx A B hA => ?_) (by have := hr.1; simp; unfold sizeLine; omega) ?_
    · simp [dwipe, sp_is_round_text]
      exact ⟨x, rfl, (hr.2 x hx).1, hA⟩
    · refine ⟨rs.length, by simp [List.map_const'], hq, ?_⟩
      refine lcL_mapO (f := fun b => rD K b) trivial rs [] (fun x hx A B hA => ?_) (by have := hr.1; simp; unfold sizeLine; omega) ?_
      · simp [dwipe, sp_made_round]
        exact ⟨x, rfl, (hr.2 x hx).1, hA⟩
      · exact ⟨ts, rs, rfl, ht, hr, hz, ts, rs, rfl, .same h⟩
/-! ### runs -/
theorem rSg_pm (bs : Bs) : rSg bs = 1 ∨ rSg bs = -1 := by
  unfold rSg
  split <;> simp
theorem uSg_snoc (rs : List Bs) (r : Bs) : uSg (rs ++ [r]) = uSg rs * rSg r := by
  unfold uSg
  rw [List.foldl_append]
  rfl
theorem uSg_pm : ∀ rs : List Bs, uSg rs = 1 ∨ uSg rs = -1 := by
  have key : ∀ (rs : List Bs) (a : Int), a = 1 ∨ a = -1 → rs.foldl (fun a b => a * rSg b) a = 1 ∨ rs.foldl (fun a b => a * rSg b) a = -1 := by
    intro rs
    induction rs with
    | nil => intro a h; exact h
    | cons r rs ih =>
      intro a h
      refine ih _ ?_
      rcases h with h | h <;> rcases rSg_pm r with h2 | h2 <;> simp [h, h2]
  exact fun rs => key rs 1 (.inl rfl)
theorem hp_Run___init__ (K : PySem.W.Frag) : ∀ ds m R, sp_Run___init__ K ds m R → T_Run___init__ K (sp_require_threads K) (sp_are_rounds K) (endsD m R) (startD ["self", "threads", "rounds", "one"] ds) m := by
  rintro ds m R ⟨n, ts, rs, rfl, hn, ht, hr, h⟩
  have hl : n < m.length := (List.getElem?_eq_some_iff.mp hn).1
  simp [T_Run___init__, startD, sp_require_threads, sp_are_rounds]
  refine ⟨ts, rfl, ht, ts, rs, ⟨rfl, rfl⟩, hr, _, hn, ?_⟩
  simp [hl, putSD]
  refine forL_O (I := fun done rest δ m' => (∃ x, δ = [some (.ref n), some (tI ts), some (.tup (rs.map (rD K))), x]) ∧ done ++ rest = rs ∧ m' = m.set n (.slt (ga K "Run") [some (.tup (rs.map (rD K))), some (.int (uSg done)), some (tI ts)])) (fun _ _ _ _ _ => trivial) (fun ds δ m' ⟨_, h2, h3⟩ => ?_) (fun ds x xs δ m' ⟨⟨y, h1⟩, h2, h3⟩ N hN => ?_) [] rs _ _ ⟨⟨_, rfl⟩, rfl, rfl⟩
  · simp at h2
    subst h2 h3
    exact .same h
  · subst h1 h3
    simp [hl, putSD, CMul]
    refine ⟨?_, hN _ _ ⟨⟨_, rfl⟩, by simpa using h2, by rw [uSg_snoc]⟩⟩
    rcases rSg_pm x with e | e <;> rw [e] <;> simp
theorem hp_Run___getitem__ (K : PySem.W.Frag) : ∀ ds m R, sp_Run___getitem__ K ds m R → T_Run___getitem__ K (sp_is_between K) (endsD m R) (startD ["self", "index"] ds) m := by
  rintro ds m R ⟨ts, rs, i, r, rfl, hl, hi, h⟩
  have hi' := (List.getElem?_eq_some_iff.mp hi).1
  simp [T_Run___getitem__, startD, sp_is_between]
  refine ⟨by unfold big; omega, by unfold big; omega, by omega, rD K r, ?_, .same h⟩
  have : rs[i] = r := (List.getElem?_eq_some_iff.mp hi).2
  simp [ixD, atI, ixN, hi', this]
theorem hp_Run___len__ (K : PySem.W.Frag) : ∀ ds m R, sp_Run___len__ K ds m R → T_Run___len__ K (endsD m R) (startD ["self"] ds) m := by
  rintro ds m R ⟨ts, rs, rfl, h⟩
  simp [T_Run___len__, startD]
  exact .same h
theorem cl_ints (L : Nat) : ∀ ns : List Int, clDs L (ns.map .int) = true
  | [] => rfl
  | n :: ns => by
    show (clD L (.int n) && clDs L (ns.map .int)) = true
    rw [cl_ints L ns]; rfl
theorem cl_tI (L : Nat) (ns : List Int) : clD L (tI ns) = true := cl_ints L ns
theorem cl_map {α : Type} (L : Nat) {f : α → D} (h : ∀ x, clD L (f x) = true) : ∀ xs : List α, clDs L (xs.map f) = true
  | [] => rfl
  | x :: xs => by
    show (clD L (f x) && clDs L (xs.map f)) = true
    rw [h x, cl_map L h xs]; rfl
theorem cl_tB (L : Nat) (bs : Bs) : clD L (tB bs) = true := cl_map L (cl_tI L) bs
theorem cl_rD (L : Nat) (K : PySem.W.Frag) (bs : Bs) : clD L (rD K bs) = true := by
  show (clD L (tB bs) && (true && (true && (clD L (tI (rTh bs)) && true)))) = true
  rw [cl_tB, cl_tI]; rfl
theorem cl_rs (L : Nat) (K : PySem.W.Frag) (rs : List Bs) : clDs L (rs.map (rD K)) = true := cl_map L (cl_rD L K) rs
theorem cl_uD (L : Nat) (K : PySem.W.Frag) (ts : List Int) (rs : List Bs) : clD L (uD K ts rs) = true := by
  show (clDs L (rs.map (rD K)) && (true && (clD L (tI ts) && true))) = true
  rw [cl_rs, cl_tI]; rfl
theorem okEs_rs (K : PySem.W.Frag) : ∀ rs : List Bs, OkEs (LRound K) 1 1 (rs.map (rD K))
  | [] => .nil
  | r :: rs => .cons (.obj ⟨r, rfl⟩ (by decide)) (okEs_rs K rs)
theorem hp_Run___eq__ (K : PySem.W.Frag) : ∀ ds m R, sp_Run___eq__ K ds m R → T_Run___eq__ K (LRound K) (endsD m R) (startD ["self", "other"] ds) m := by
  rintro ds m R ⟨ts, rs, rfl, hl, h⟩
  simp [T_Run___eq__, startD]
  refine ⟨cl_rs 0 K rs, okEs_rs K rs, .same h⟩
theorem hm_Round (K : PySem.W.Frag) : ∀ ds m R, mk_Round K ds m R → mkS (ga K "Round") (sp_Round___init__ K) (.slt (ga K "Round") []) ds m (Fin m R) := by
  rintro ds m R ⟨bs, rfl, ok, h⟩
  refine ⟨m.length, bs, rfl, by simp, ok, rfl, ?_⟩
  rw [List.set_append_right (h := Nat.le_refl _)]
  simp only [Nat.sub_self, List.set_cons_zero]
  exact Fin.drop (.sltR (Nat.le_refl _) (by simp) (by simp) (.cons (.cl (cl_tB _ bs)) (.cons (.cl rfl) (.cons (.cl rfl) (.cons (.cl (cl_tI _ _)) .nil))))) h
theorem hm_Run (K : PySem.W.Frag) : ∀ ds m R, mk_Run K ds m R → mkS (ga K "Run") (sp_Run___init__ K) (.slt (ga K "Run") []) ds m (Fin m R) := by
  rintro ds m R ⟨ts, rs, rfl, ht, hr, h⟩
  refine ⟨m.length, ts, rs, rfl, by simp, ht, hr, rfl, ?_⟩
  rw [List.set_append_right (h := Nat.le_refl _)]
  simp only [Nat.sub_self, List.set_cons_zero]
  exact Fin.drop (.sltR (Nat.le_refl _) (by simp) (by simp) (.cons (.cl (d := .tup (rs.map (rD K))) (cl_rs _ K rs)) (.cons (.cl rfl) (.cons (.cl (cl_tI _ _)) .nil)))) h
end FN
set_option Elab.async false
set_option linter.all false
set_option maxRecDepth 100000
set_option maxHeartbeats 4000000
/-! P3: seats and tables -/
namespace FN
open PySem PySem.Spec PyProof.Rows L2 SlX DL
open TL (tl)
def seD (K : PySem.W.Frag) (s : Se) : D := .obj (ga K "Seat") [.int s.di, .int s.fi, tI s.pa]
def kvD {β : Type} (f : β → D) (ss : List (Int × β)) : List (Key × D) := ss.map fun p => (.inl p.1, f p.2)
def ssD (K : PySem.W.Frag) (s : Seats) : D := .dic (kvD (seD K) s)
def nmD (s : Names) : D := .dic (kvD D.int s)
section
variable {β : Type} {f : β → D}
theorem vl_kv (ss : List (Int × β)) (t : Int) : vlD (kvD f ss) (.inl t) = (lk ss t).map f := by
  unfold vlD kvD lk
  rw [List.find?_map]
  simp only [Option.map_map]
  have : ((fun kv : Key × D => decide (kv.1 = Sum.inl t)) ∘ fun p : Int × β => (Sum.inl p.1, f p.2)) = fun p => decide (p.1 = t) := by
    funext p
    simp
  rw [this]
  rfl
theorem pt_kv (ss : List (Int × β)) (t : Int) (v : β) : ptD (kvD f ss) (.inl t) (f v) = kvD f (put ss t v) := by
  unfold ptD kvD put
  rw [List.any_map]
  have : ((fun kv : Key × D => decide (kv.1 = Sum.inl t)) ∘ fun p : Int × β => (Sum.inl p.1, f p.2)) = fun p => decide (p.1 = t) := by
    funext p
    simp
  rw [this]
  split
  · rw [List.map_map, List.map_map]
    refine List.map_congr_left fun p _ => ?_
    simp only [Function.comp]
    by_cases h : p.1 = t
    · simp [h]
    · simp [h]
  · simp
theorem dp_kv (ss : List (Int × β)) (t : Int) : dpD (kvD f ss) (.inl t) = kvD f (del ss t) := by
  unfold dpD kvD del
  rw [List.filter_map]
  congr 1
  refine List.filter_congr fun p _ => ?_
  simp
theorem mg_kv (a b : List (Int × β)) : mgD (kvD f a) (kvD f b) = kvD f (mg a b) := by
  unfold mgD mg
  have key : ∀ (b a : List (Int × β)), (kvD f b).foldl (fun acc kv => ptD acc kv.1 kv.2) (kvD f a) = kvD f (b.foldl (fun acc p => put acc p.1 p.2) a) := by
    intro b
    induction b with
    | nil => intro a; rfl
    | cons p b ih =>
      intro a
      show (kvD f b).foldl _ (ptD (kvD f a) (.inl p.1) (f p.2)) = _
      rw [pt_kv, ih]
      rfl
  exact key b a
theorem kv_length (ss : List (Int × β)) : (kvD f ss).length = ss.length := by simp [kvD]
/-- a dict of unlike keys, made one by one -/
theorem fold_pt : ∀ (xs acc : List (Key × D)), (∀ p ∈ xs, ∀ q ∈ acc, q.1 ≠ p.1) → (xs.map (·.1)).Nodup → xs.foldl (fun acc kv => ptD acc kv.1 kv.2) acc = acc ++ xs
  | [], acc, _, _ => by simp
  | x :: xs, acc, h1, h2 => by
    rw [List.map_cons, List.nodup_cons] at h2
    rw [List.foldl_cons]
    have e : ptD acc x.1 x.2 = acc ++ [x] := by
      unfold ptD
      rw [if_neg]
      intro z
      rw [List.any_eq_true] at z
      obtain ⟨q, hq, e⟩ := z
      exact h1 x List.mem_cons_self q hq (of_decide_eq_true e)
    rw [e, fold_pt xs (acc ++ [x]) (fun p hp q hq => ?_) h2.2]
    · simp
    · rcases List.mem_append.mp hq with h | h
      · exact h1 p (List.mem_cons_of_mem _ hp) q h
      · rw [List.mem_singleton.mp h]
        intro z
        exact h2.1 (z ▸ List.mem_map_of_mem hp)
end
theorem nodup_inl {xs : List Int} (h : xs.Nodup) : (xs.map (Sum.inl : Int → Key)).Nodup := by
  induction xs with
  | nil => simp
  | cons x xs ih =>
    rw [List.nodup_cons] at h
    rw [List.map_cons, List.nodup_cons]
    exact ⟨fun z => by
      obtain ⟨y, hy, e⟩ := List.mem_map.mp z
      cases e
      exact h.1 hy, ih h.2⟩
/-! ### promises: seats -/
def sp_Seat___init__ (K : PySem.W.Frag) : DRs := fun ds m R => ∃ (n : Nat) (s : Se), ds = [.ref n, .int s.fi, .int s.di, tI s.pa] ∧ m[n]? = some (.slt (ga K "Seat") []) ∧ R .non (m.set n (.slt (ga K "Seat") [some (.int s.di), some (.int s.fi), some (tI s.pa)]))
def mk_Seat (K : PySem.W.Frag) : DRs := fun ds m R => ∃ s : Se, ds = [.int s.fi, .int s.di, tI s.pa] ∧ R (seD K s) m
def sp_Seat_greatest_name (K : PySem.W.Frag) : DRs := fun ds m R => ∃ (s : Se) (k : Nat), ds = [seD K s, .int k] ∧ SeOk 6 s ∧ k ≤ 5 ∧ R (.int (topNm s k)) m
def sp_Seat_next_seat (K : PySem.W.Frag) : DRs := fun ds m R => ∃ (s : Se) (k : Nat), ds = [seD K s, .int k] ∧ SeOk 6 s ∧ k ≤ 5 ∧ R (seD K (nextSe s k)) m
def sp_first_seats (K : PySem.W.Frag) : DRs := fun ds m R => ∃ ts : List Int, ds = [tI ts] ∧ OkTh ts ∧ R (ssD K (initS ts).ss) m
def sp_seats_behind (K : PySem.W.Frag) : DRs := fun ds m R => ∃ (ss : Seats) (bs : Bs), ds = [ssD K ss, rD K bs] ∧ OkBs bs ∧ (∀ p ∈ ss, SeOk 6 p.2) ∧ ss.length ≤ 1000 ∧ hasT (tbP K "place_of") m ∧ R (.tup [ssD K (sbh ss bs).1, nmD (sbh ss bs).2]) m
section
variable {K : PySem.W.Frag} {m : Mu}
@[simp] theorem se_slot0 (s : Se) : slotOf (ga K "Seat") 0 m (seD K s) = some (.int s.di) := by simp [seD, slotOf]
@[simp] theorem se_slot1 (s : Se) : slotOf (ga K "Seat") 1 m (seD K s) = some (.int s.fi) := by simp [seD, slotOf]
@[simp] theorem se_slot2 (s : Se) : slotOf (ga K "Seat") 2 m (seD K s) = some (tI s.pa) := by simp [seD, slotOf]
@[simp] theorem se_obj (s : Se) : isObjS (ga K "Seat") m (seD K s) := rfl
@[simp] theorem dic_ss (ss : Seats) : dicOf (ssD K ss) m = some (kvD (seD K) ss) := rfl
@[simp] theorem dic_nm (ss : Names) : dicOf (nmD ss) m = some (kvD D.int ss) := rfl
end
theorem hp_Seat___init__ (K : PySem.W.Frag) : ∀ ds m R, sp_Seat___init__ K ds m R → T_Seat___init__ K (endsD m R) (startD ["self", "first", "direction", "past"] ds) m := by
  rintro ds m R ⟨n, s, rfl, hn, h⟩
  have hl : n < m.length := (List.getElem?_eq_some_iff.mp hn).1
  simp [T_Seat___init__, startD]
  refine ⟨_, hn, ?_⟩
  simp [hl, putSD]
  exact .same h
theorem hm_Seat (K : PySem.W.Frag) : ∀ ds m R, mk_Seat K ds m R → mkS (ga K "Seat") (sp_Seat___init__ K) (.slt (ga K "Seat") []) ds m (Fin m R) := by
  rintro ds m R ⟨s, rfl, h⟩
  refine ⟨m.length, s, rfl, by simp, rfl, ?_⟩
  rw [List.set_append_right (h := Nat.le_refl _)]
  simp only [Nat.sub_self, List.set_cons_zero]
  exact Fin.drop (.sltR (Nat.le_refl _) (by simp) (by simp) (.cons (.cl rfl) (.cons (.cl rfl) (.cons (.cl (cl_tI _ _)) .nil)))) h
theorem cmulS {i j : Int} (hi : i.natAbs < 2 ^ 100) (hj : j.natAbs < 2 ^ 100) : CMulW i j := by
  have h1 := log2_lt hi (by decide)
  have h2 := log2_lt hj (by decide)
  unfold CMulW
  omega
theorem di_small {k : Nat} {s : Se} (ok : SeOk k s) : s.di.natAbs < 2 ^ 100 := by
  rcases ok.1 with e | e <;> rw [e] <;> decide
theorem hp_Seat_greatest_name (K : PySem.W.Frag) : ∀ ds m R, sp_Seat_greatest_name K ds m R → T_Seat_greatest_name K (endsD m R) (startD ["self", "many"] ds) m := by
  rintro ds m R ⟨s, k, rfl, ok, hk, h⟩
  simp [T_Seat_greatest_name, startD]
  refine ⟨cmulS (by decide) (by omega), cmulS (di_small ok) (by omega), .same h⟩
theorem hp_Seat_next_seat (K : PySem.W.Frag) : ∀ ds m R, sp_Seat_next_seat K ds m R → T_Seat_next_seat K (mk_Seat K) (endsD m R) (startD ["self", "many"] ds) m := by
  rintro ds m R ⟨s, k, rfl, ok, hk, h⟩
  simp [T_Seat_next_seat, startD]
  refine ⟨cmulS (by decide) (by omega), cmulS (di_small ok) (by omega), by have := ok.2.2.2; unfold sizeLine; omega, nextSe s k, ?_, .same h⟩
  simp [nextSe, tI]
theorem hp_first_seats (K : PySem.W.Frag) : ∀ ds m R, sp_first_seats K ds m R → T_first_seats K (mk_Seat K) (endsD m R) (startD ["threads", "thread"] ds) m := by
  rintro ds m R ⟨ts, rfl, ok, h⟩
  simp [T_first_seats, startD, tI]
  refine dcL_ok (f := fun t => some (.inl t, seD K ⟨1, 1, []⟩)) trivial ts [] (fun x hx A B hA => ?_) (by have := ok.2.2.2; simp; unfold sizeLine; omega) ?_
  · simp [dwipe]
    exact ⟨⟨1, 1, []⟩, rfl, hA⟩
  · rw [show (ts.filterMap fun t => some ((Sum.inl t : Key), seD K ⟨1, 1, []⟩)) = kvD (seD K) (initS ts).ss by
      simp [kvD, initS]]
    rw [fold_pt _ _ (by simp) ?_]
    · exact .same h
    · rw [show (kvD (seD K) (initS ts).ss).map (·.1) = ts.map Sum.inl by simp [kvD, initS]]
      exact nodup_inl (asc_nodup ok.1)
theorem cl_seD (L : Nat) (K : PySem.W.Frag) (s : Se) : clD L (seD K s) = true := by
  show (true && (true && (clD L (tI s.pa) && true))) = true
  rw [cl_tI]; rfl
theorem fzk_kv {β : Type} {f : β → D} {L : Nat} {tl : List MO} (h : ∀ b, Fz L tl (f b) (f b)) : ∀ {xs : List (Int × β)}, Fzk L tl (kvD f xs) (kvD f xs)
  | [] => .nil
  | x :: xs => .cons (h _) (fzk_kv (xs := xs) h)
theorem hasT_app {P : Addr} {m tl : Mu} (h : hasT P m) : hasT P (m ++ tl) := by
  obtain ⟨n, e⟩ := h
  exact ⟨n, by rw [List.getElem?_append_left (List.getElem?_eq_some_iff.mp e).1]; exact e⟩
theorem filMap {α β : Type} {p : α → Bool} {g : α → β} : ∀ xs : List α, (xs.filterMap fun o => if p o = true then some (g o) else none) = (xs.filter p).map g
  | [] => rfl
  | x :: xs => by
    rw [List.filterMap_cons, List.filter_cons, filMap xs]
    by_cases h : p x = true <;> simp [h]
theorem ix_last {m : Mu} {xs : List Int} {l : Int} (h : xs.getLast? = some l) : ixD m (.lst (xs.map .int)) (-1) = some (.int l) := by
  rw [List.getLast?_eq_getElem?] at h
  have hl : xs.length ≠ 0 := fun e => by
    rw [List.getElem?_eq_none (by omega)] at h
    cases h
  have e : ixN xs.length (-1) = some (xs.length - 1) := by
    unfold ixN
    rw [if_neg (by decide), if_pos (by omega)]
    congr 1
    omega
  simp [ixD, atI, e, h, seqOf, lstOf]
theorem app_get0 {α : Type} (m : List α) (a : α) (l : List α) : (m ++ a :: l)[m.length]? = some a := by simp
theorem app_get1 {α : Type} (m : List α) (a b : α) (l : List α) : (m ++ a :: b :: l)[m.length + 1]? = some b := by simp
theorem app_set0 {α : Type} (m : List α) (a c : α) (l : List α) : (m ++ a :: l).set m.length c = m ++ c :: l := by simp
theorem app_set1 {α : Type} (m : List α) (a b c : α) (l : List α) : (m ++ a :: b :: l).set (m.length + 1) c = m ++ a :: c :: l := by
  rw [List.set_append_right (h := by omega)]
  simp
theorem hp_seats_behind (K : PySem.W.Frag) : ∀ ds m R, sp_seats_behind K ds m R → T_seats_behind K (sp_seen_by K) (sp_Seat_greatest_name K) (sp_Seat_next_seat K) (endsD m R) (startD ["seats", "extra", "later", "taken", "thread", "seat", "seen", "near", "one"] ds) m := by
  rintro ds m R ⟨ss, bs, rfl, ok, hs, hl, ht, h⟩
  have hth : (rTh bs).length ≤ 5 := by
    have := (srt_perm bs.flatten).length_eq
    show (srt bs.flatten).length ≤ 5
    rw [this]; exact ok.2.2.1
  simp [T_seats_behind, startD, tI]
  refine forL_O (α := Int) (I := fun done rest δ m' => (∃ a b c d e, δ = [some (ssD K ss), some (rD K bs), some (.ref m.length), some (.ref (m.length + 1)), a, b, c, d, e]) ∧ done ++ rest = rTh bs ∧
    m' = m ++ [.dic (kvD (seD K) (done.foldl (sbStep ss bs) (ss, [])).1), .dic (kvD D.int (done.foldl (sbStep ss bs) (ss, [])).2)]) (fun _ _ _ _ _ => trivial) (fun ds δ m' ⟨h1, h2, h3⟩ => ?_) (fun ds x xs δ m' ⟨⟨a, b, c, d, e, h1⟩, h2, h3⟩ N hN => ?_) [] _ _ _ ⟨⟨_, _, _, _, _, rfl⟩, rfl, rfl⟩
  · obtain ⟨a, b, c, d, e, rfl⟩ := h1
    simp at h2
    subst h2 h3
    simp
    refine ⟨by decide, Fin.drop (.tup (.cons (.dicR (Nat.le_refl _) (by simp; rfl) (fzk_kv fun s => .cl (cl_seD _ K s))) (.cons (.dicR (by omega) (by simp; rfl) (fzk_kv fun s => .cl rfl)) .nil))) h⟩
  · subst h1 h3
    have nd : (rTh bs).Nodup := rTh_nodup ok.2.2.2
    have hx : x ∈ bs.flatten := by
      rw [← rTh_mem, ← h2]
      simp
    have hds : ds.Nodup ∧ x ∉ ds := by
      rw [← h2, List.nodup_append] at nd
      exact ⟨nd.1, fun z => nd.2.2 x z x List.mem_cons_self rfl⟩
    have hdl : ds.length ≤ 5 := by
      rw [← h2, List.length_append] at hth
      omega
    have hlater : lk (ds.foldl (sbStep ss bs) (ss, [])).1 x = lk ss x := by
      rw [(sb_fold ss bs x ds _ hds.1).1, if_neg hds.2]
    have inv := sb_inv (k := 6) ok.2.2.1 hs ds (ss, []) (fun p hp => (hs p hp).mono) (fun p hp => absurd hp (by simp))
    have hfold : (ds ++ [x]).foldl (sbStep ss bs) (ss, []) = sbStep ss bs (ds.foldl (sbStep ss bs) (ss, [])) x := by
      rw [List.foldl_append]; rfl
    generalize hacc : ds.foldl (sbStep ss bs) (ss, []) = acc at *
    obtain ⟨later, taken⟩ := acc
    obtain ⟨_, _, il, it⟩ := inv
    simp only [List.length_nil] at il it
    simp [vl_kv]
    cases hlk : lk ss x with
    | none =>
      refine .inl ⟨rfl, hN _ _ ⟨⟨_, _, _, _, _, rfl⟩, by simpa using h2, ?_⟩⟩
      rw [hfold]
      unfold sbStep
      rw [hlk]
    | some s =>
      have hso : SeOk 6 s := hs _ (lk_mem hlk)
      have hnl := near_length ss bs x s
      have hnear := near_self hx hlk
      refine .inr ⟨rfl, seD K s, ⟨s, rfl, rfl⟩, bs, x, rfl, ok, hasT_app ht, ?_⟩
      refine lcL_filO (c := D.int) (f := fun o => if (lk ss o).isSome = true then some (.int o) else none) trivial (seenL bs x) [] (fun o ho A B hA => ?_) (by have := seenL_length bs x; have := ok.2.2.1; simp; unfold sizeLine; omega) ?_
      · simp [dwipe, vl_kv]
        by_cases h : (lk ss o).isSome = true
        · rw [if_pos h] at hA
          exact .inr ⟨h, hA⟩
        · rw [if_neg h] at hA
          exact .inl ⟨by simpa using h, hA⟩
      · rw [List.nil_append, filMap]
        refine lcL_filO (c := D.int) (f := fun o => if decide ((lk ss o).map (·.pa) = some s.pa) = true then some (.int o) else none) trivial ((seenL bs x).filter fun o => (lk ss o).isSome) [] (fun o ho A B hA => ?_) (by have := List.length_filter_le (fun o => (lk ss o).isSome) (seenL bs x); have := seenL_length bs x; have := ok.2.2.1; simp; unfold sizeLine; omega) ?_
        · have h1 := (List.mem_filter.mp ho).2
          obtain ⟨so, hso'⟩ := Option.isSome_iff_exists.mp h1
          simp [dwipe, vl_kv, hso']
          by_cases h : so.pa = s.pa
          · simp [hso', h] at hA
            exact .inr ⟨h, hA⟩
          · simp [hso', h] at hA
            exact .inl ⟨h, hA⟩
        · rw [List.nil_append, filMap]
          have hnr : ((seenL bs x).filter fun o => (lk ss o).isSome).filter (fun o => decide ((lk ss o).map (·.pa) = some s.pa)) = near ss bs x s := rfl
          rw [hnr]
          have hstep : sbStep ss bs (later, taken) x = if (near ss bs x s).getLast? = some x then (del later x, put taken x (topNm s (near ss bs x s).length)) else (put later x (nextSe s (near ss bs x s).length), taken) := by
            unfold sbStep
            rw [hlk]
          generalize near ss bs x s = nr at *
          have hne : nr ≠ [] := fun e => by rw [e] at hnear; simp at hnear
          obtain ⟨l, hl2⟩ : ∃ l, nr.getLast? = some l := ⟨_, List.getLast?_eq_some_getLast hne⟩
          have hk5 : nr.length ≤ 5 := Nat.le_trans hnl ok.2.2.1
          refine ⟨.int l, ix_last hl2, by simp, ?_⟩
          rw [hl2] at hstep
          simp
          by_cases hxl : x = l
          · refine .inr ⟨hxl, s, _, rfl, hso, hk5, ?_⟩
            rw [if_pos (by rw [hxl])] at hstep
            refine ⟨_, app_get1 _ _ _ _, by rw [kv_length]; unfold sizeLine; omega, ?_⟩
            rw [pt_kv (f := D.int), app_set1]
            refine ⟨⟨_, by simp [dicOf]; rfl⟩, _, app_get0 _ _ _, ⟨seD K s, by rw [vl_kv]; simp only at hlater; rw [hlater, hlk]; rfl⟩, ?_⟩
            rw [dp_kv, app_set0]
            exact hN _ _ ⟨⟨_, _, _, _, _, rfl⟩, by simpa using h2, by rw [hfold, hstep]⟩
          · refine .inl ⟨hxl, s, _, rfl, hso, hk5, ?_⟩
            rw [if_neg (by simpa using fun e => hxl e.symm)] at hstep
            refine ⟨_, app_get0 _ _ _, by rw [kv_length]; unfold sizeLine; omega, ?_⟩
            rw [pt_kv (f := seD K), app_set0]
            exact hN _ _ ⟨⟨_, _, _, _, _, rfl⟩, by simpa using h2, by rw [hfold, hstep]⟩
end FN
set_option Elab.async false
set_option linter.all false
set_option maxRecDepth 100000
set_option maxHeartbeats 4000000
/-! P4: tables -/
namespace FN
open PySem PySem.Spec PyProof.Rows L2 SlX DL
open TL (tl)
/-- a standing -/
def stD (K : PySem.W.Frag) (ts : List Int) (st : St) : D := .obj (ga K "Standing") [nmD st.nm, uD K ts st.rs, tI st.run, ssD K st.ss]
def tF (a b c d e f : D) : List (Str × D) := [("own_threads", a), ("own_running", b), ("own_names", c), ("own_seats", d), ("own_run", e), ("own_past", f)]
def t1F (a : D) : List (Str × D) := [("own_threads", a)]
def t2F (a b : D) : List (Str × D) := [("own_threads", a), ("own_running", b)]
def t3F (a b c : D) : List (Str × D) := [("own_threads", a), ("own_running", b), ("own_names", c)]
def t4F (a b c d : D) : List (Str × D) := [("own_threads", a), ("own_running", b), ("own_names", c), ("own_seats", d)]
def t5F (a b c d e : D) : List (Str × D) := [("own_threads", a), ("own_running", b), ("own_names", c), ("own_seats", d), ("own_run", e)]
def tabF (K : PySem.W.Frag) (ts : List Int) (st : St) (p : Nat) : List (Str × D) := tF (tI ts) (tI st.run) (nmD st.nm) (ssD K st.ss) (uD K ts st.rs) (.ref p)
section
variable {K : PySem.W.Frag} {m : Mu} {a b c d e f v : D}
@[simp] theorem tF_put1 : putFD "own_threads" v (tF a b c d e f) = tF v b c d e f := by rfl
@[simp] theorem tF_put2 : putFD "own_running" v (tF a b c d e f) = tF a v c d e f := by rfl
@[simp] theorem tF_put3 : putFD "own_names" v (tF a b c d e f) = tF a b v d e f := by rfl
@[simp] theorem tF_put4 : putFD "own_seats" v (tF a b c d e f) = tF a b c v e f := by rfl
@[simp] theorem tF_put5 : putFD "own_run" v (tF a b c d e f) = tF a b c d v f := by rfl
@[simp] theorem tF_put6 : putFD "own_past" v (tF a b c d e f) = tF a b c d e v := by rfl
@[simp] theorem tF_lk1 : (tF a b c d e f).lookup ("own_threads" : Str) = some a := by rfl
@[simp] theorem tF_lk2 : (tF a b c d e f).lookup ("own_running" : Str) = some b := by rfl
@[simp] theorem tF_lk3 : (tF a b c d e f).lookup ("own_names" : Str) = some c := by rfl
@[simp] theorem tF_lk4 : (tF a b c d e f).lookup ("own_seats" : Str) = some d := by rfl
@[simp] theorem tF_lk5 : (tF a b c d e f).lookup ("own_run" : Str) = some e := by rfl
@[simp] theorem tF_lk6 : (tF a b c d e f).lookup ("own_past" : Str) = some f := by rfl
theorem tF_no {x : Str} (h : x ∉ (["own_threads", "own_running", "own_names", "own_seats", "own_run", "own_past"] : List Str)) : (tF a b c d e f).lookup x = none := by
  simp only [List.mem_cons, not_or, List.not_mem_nil, not_false_eq_true, and_true] at h
  obtain ⟨h1, h2, h3, h4, h5, h6⟩ := h
  unfold tF
  simp only [List.lookup, beq_eq_false_iff_ne.mpr h1, beq_eq_false_iff_ne.mpr h2, beq_eq_false_iff_ne.mpr h3, beq_eq_false_iff_ne.mpr h4, beq_eq_false_iff_ne.mpr h5, beq_eq_false_iff_ne.mpr h6]
@[simp] theorem tF_p1 : putFD "own_threads" a [] = t1F a := by rfl
@[simp] theorem tF_p2 : putFD "own_running" b (t1F a) = t2F a b := by rfl
@[simp] theorem tF_p3 : putFD "own_names" c (t2F a b) = t3F a b c := by rfl
@[simp] theorem tF_p4 : putFD "own_seats" d (t3F a b c) = t4F a b c d := by rfl
@[simp] theorem tF_p5 : putFD "own_run" e (t4F a b c d) = t5F a b c d e := by rfl
@[simp] theorem tF_p6 : putFD "own_past" f (t5F a b c d e) = tF a b c d e f := by rfl
@[simp] theorem t1_len : (t1F a).length = 1 := rfl
@[simp] theorem t2_len : (t2F a b).length = 2 := rfl
@[simp] theorem t3_len : (t3F a b c).length = 3 := rfl
@[simp] theorem t4_len : (t4F a b c d).length = 4 := rfl
@[simp] theorem t5_len : (t5F a b c d e).length = 5 := rfl
@[simp] theorem tF_len : (tF a b c d e f).length = 6 := rfl
theorem tF_all {C : Addr} {n : Nat} {fs : List (Str × D)} (h : m[n]? = some (.ins C fs)) (g : Str) : fldOf C g m (.ref n) = fs.lookup g := by simp [fldOf, h]
@[simp] theorem st_slot0 (ts : List Int) (st : St) : slotOf (ga K "Standing") 0 m (stD K ts st) = some (nmD st.nm) := by simp [stD, slotOf]
@[simp] theorem st_slot1 (ts : List Int) (st : St) : slotOf (ga K "Standing") 1 m (stD K ts st) = some (uD K ts st.rs) := by simp [stD, slotOf]
@[simp] theorem st_slot2 (ts : List Int) (st : St) : slotOf (ga K "Standing") 2 m (stD K ts st) = some (tI st.run) := by simp [stD, slotOf]
@[simp] theorem st_slot3 (ts : List Int) (st : St) : slotOf (ga K "Standing") 3 m (stD K ts st) = some (ssD K st.ss) := by simp [stD, slotOf]
end
theorem cl_kv {β : Type} {f : β → D} {L : Nat} (h : ∀ b, clD L (f b) = true) : ∀ xs : List (Int × β), clDk L (kvD f xs) = true
  | [] => rfl
  | x :: xs => by
    show (clD L (f x.2) && clDk L (kvD f xs)) = true
    rw [h, cl_kv h xs]; rfl
theorem cl_ssD (L : Nat) (K : PySem.W.Frag) (ss : Seats) : clD L (ssD K ss) = true := cl_kv (cl_seD L K) ss
theorem cl_nmD (L : Nat) (ss : Names) : clD L (nmD ss) = true := cl_kv (fun _ => rfl) ss
theorem cl_stD (L : Nat) (K : PySem.W.Frag) (ts : List Int) (st : St) : clD L (stD K ts st) = true := by
  show (clD L (nmD st.nm) && (clD L (uD K ts st.rs) && (clD L (tI st.run) && (clD L (ssD K st.ss) && true)))) = true
  rw [cl_nmD, cl_uD, cl_tI, cl_ssD]; rfl
/-- a table in the store: at n, its past at p -/
structure Tab (K : PySem.W.Frag) (n p : Nat) (ts : List Int) (st : St) (past : List St) (m : Mu) : Prop where
  ins : m[n]? = some (.ins (ga K "Table") (tabF K ts st p))
  lst : m[p]? = some (.lst (past.map (stD K ts)))
def setTab (K : PySem.W.Frag) (n p : Nat) (ts : List Int) (st : St) (past : List St) (m : Mu) : Mu := (m.set p (.lst (past.map (stD K ts)))).set n (.ins (ga K "Table") (tabF K ts st p))
section
variable {K : PySem.W.Frag} {n p : Nat} {ts : List Int} {st st' : St} {past past' : List St} {m : Mu}
theorem Tab.ne (h : Tab K n p ts st past m) : n ≠ p := fun e => by
  have := h.ins
  rw [e, h.lst] at this
  cases this
theorem Tab.ln (h : Tab K n p ts st past m) : n < m.length := (List.getElem?_eq_some_iff.mp h.ins).1
theorem Tab.lp (h : Tab K n p ts st past m) : p < m.length := (List.getElem?_eq_some_iff.mp h.lst).1
theorem setTab_length : (setTab K n p ts st past m).length = m.length := by simp [setTab]
theorem setTab_ok (h : n < m.length) (h2 : p < m.length) (ne : n ≠ p) : Tab K n p ts st past (setTab K n p ts st past m) :=
  ⟨by simp [setTab, h], by
    unfold setTab
    rw [List.getElem?_set_ne ne]
    simp [h2]⟩
theorem Tab.set (h : Tab K n p ts st past m) : Tab K n p ts st' past' (setTab K n p ts st' past' m) := setTab_ok h.ln h.lp h.ne
theorem setTab_set (ne : n ≠ p) : setTab K n p ts st' past' (setTab K n p ts st past m) = setTab K n p ts st' past' m := by
  unfold setTab
  rw [List.set_comm _ _ ne, List.set_set, List.set_set]
theorem setTab_get {i : Nat} (h1 : i ≠ n) (h2 : i ≠ p) : (setTab K n p ts st past m)[i]? = m[i]? := by
  unfold setTab
  rw [List.getElem?_set_ne (Ne.symm h1), List.getElem?_set_ne (Ne.symm h2)]
theorem Tab.same (h : Tab K n p ts st past m) : setTab K n p ts st past m = m := by
  unfold setTab
  have e1 : m.set p (.lst (past.map (stD K ts))) = m := by
    obtain ⟨hl, e⟩ := List.getElem?_eq_some_iff.mp h.lst
    rw [← e]; simp
  rw [e1]
  obtain ⟨hl, e⟩ := List.getElem?_eq_some_iff.mp h.ins
  rw [← e]; simp
theorem Tab.ins_only (h : Tab K n p ts st past m) : setTab K n p ts st' past m = m.set n (.ins (ga K "Table") (tabF K ts st' p)) := by
  unfold setTab
  have e1 : m.set p (.lst (past.map (stD K ts))) = m := by
    obtain ⟨hl, e⟩ := List.getElem?_eq_some_iff.mp h.lst
    rw [← e]; simp
  rw [e1]
theorem Tab.hasT {P : Addr} (h : Tab K n p ts st past m) (t : hasT P m) : DL.hasT P (setTab K n p ts st' past' m) := by
  obtain ⟨i, hi⟩ := t
  refine ⟨i, ?_⟩
  rw [setTab_get]
  · exact hi
  · rintro rfl; rw [h.ins] at hi; cases hi
  · rintro rfl; rw [h.lst] at hi; cases hi
end
/-! ### promises -/
def optI : Option Int → D
  | some i => .int i
  | none => .non
def namesP (ts : List Int) (nm : Names) : List (Key × D) := ts.map fun t => (.inl t, optI (lk nm t))
def placesP (ts : List Int) (ss : Seats) : List (Key × D) := ts.filterMap fun t => (lk ss t).map fun s => (.inl t, .tup [.int s.fi, .int s.di])
def waitS (st : St) : Bool := st.run.any fun t => (lk st.nm t).isNone
def tabTx (ts : List Int) (st : St) : Str := Str.empty ++ "table of " ++ Str.ofString (toString ((ts.length : Nat) : Int)) ++ " threads: " ++ Str.ofString (toString ((st.rs.length : Nat) : Int)) ++ " rounds, " ++ Str.ofString (toString ((st.nm.length : Nat) : Int)) ++ " named"
def sp_Standing___init__ (K : PySem.W.Frag) : DRs := fun ds m R => ∃ (n : Nat) (ts : List Int) (st : St), ds = [.ref n, tI st.run, nmD st.nm, ssD K st.ss, uD K ts st.rs] ∧ m[n]? = some (.slt (ga K "Standing") []) ∧
  R .non (m.set n (.slt (ga K "Standing") [some (nmD st.nm), some (uD K ts st.rs), some (tI st.run), some (ssD K st.ss)]))
def mk_Standing (K : PySem.W.Frag) : DRs := fun ds m R => ∃ (ts : List Int) (st : St), ds = [tI st.run, nmD st.nm, ssD K st.ss, uD K ts st.rs] ∧ R (stD K ts st) m
def sp_Table___init__ (K : PySem.W.Frag) : DRs := fun ds m R => ∃ (n : Nat) (ts : List Int), ds = [.ref n, tI ts] ∧ m[n]? = some (.ins (ga K "Table") []) ∧ OkTh ts ∧
  R .non ((m ++ [MO.lst []]).set n (.ins (ga K "Table") (tabF K ts (initS ts) m.length)))
def mk_Table (K : PySem.W.Frag) : DRs := fun ds m R => ∃ ts : List Int, ds = [tI ts] ∧ OkTh ts ∧ R (.ref m.length) (m ++ [.ins (ga K "Table") (tabF K ts (initS ts) (m.length + 1)), .lst []])
/-- what is read off a table -/
def rdT (K : PySem.W.Frag) (C : List Int → St → Prop) (v : List Int → St → D) : DRs := fun ds m R => ∃ (n p : Nat) (ts : List Int) (st : St) (past : List St), ds = [.ref n] ∧ Tab K n p ts st past m ∧ C ts st ∧ R (v ts st) m
def sp_Table_threads (K : PySem.W.Frag) : DRs := rdT K (fun _ _ => True) fun ts _ => tI ts
def sp_Table_running (K : PySem.W.Frag) : DRs := rdT K (fun _ _ => True) fun _ st => tI st.run
def sp_Table_run (K : PySem.W.Frag) : DRs := rdT K (fun _ _ => True) fun ts st => uD K ts st.rs
def sp_Table_names (K : PySem.W.Frag) : DRs := rdT K (fun ts _ => OkTh ts) fun ts st => .dic (namesP ts st.nm)
def sp_Table_places (K : PySem.W.Frag) : DRs := rdT K (fun ts _ => OkTh ts) fun ts st => .dic (placesP ts st.ss)
def sp_is_waiting (K : PySem.W.Frag) : DRs := rdT K (fun _ st => st.run.length ≤ 5) fun _ st => .bl (waitS st)
def sp_Table___bool__ (K : PySem.W.Frag) : DRs := sp_is_waiting K
def sp_Table___len__ (K : PySem.W.Frag) : DRs := rdT K (fun _ _ => True) fun _ st => .int st.rs.length
def sp_Table___str__ (K : PySem.W.Frag) : DRs := rdT K (fun ts st => ts.length ≤ 5 ∧ st.rs.length ≤ 6 ∧ st.nm.length ≤ 1000) fun ts st => .str (tabTx ts st)
def sp_Table___eq__ (K : PySem.W.Frag) : DRs := fun ds m R => ∃ (n p n' p' : Nat) (ts : List Int) (st st' : St) (past past' : List St), ds = [.ref n, .ref n'] ∧ Tab K n p ts st past m ∧ Tab K n' p' ts st' past' m ∧ st.run = st'.run ∧ st.rs = st'.rs ∧ st.rs.length ≤ 6 ∧ R (.bl true) m
def sp_Table_keep_now (K : PySem.W.Frag) : DRs := fun ds m R => ∃ (n p : Nat) (ts : List Int) (st : St) (past : List St), ds = [.ref n] ∧ Tab K n p ts st past m ∧ past.length ≤ 1000 ∧ R .non (setTab K n p ts st (past ++ [st]) m)
def sp_Table_go (K : PySem.W.Frag) : DRs := fun ds m R => ∃ (n p : Nat) (ts : List Int) (st : St) (past : List St) (bs : Bs), ds = [.ref n, rD K bs] ∧ Tab K n p ts st past m ∧ Wf ts st ∧ OkBs bs ∧ rTh bs = st.run ∧ st.rs.length < 6 ∧ past.length ≤ 1000 ∧ hasT (tbP K "place_of") m ∧
  R (nmD (sbh st.ss bs).2) (setTab K n p ts (goS ts st bs) (past ++ [st]) m)
def sp_Table_stop (K : PySem.W.Frag) : DRs := fun ds m R => ∃ (n p : Nat) (ts : List Int) (st : St) (past : List St) (t : Int), ds = [.ref n, .int t] ∧ Tab K n p ts st past m ∧ Wf ts st ∧ t ∈ st.run ∧ 1 < st.run.length ∧ past.length ≤ 1000 ∧
  R (optI (lk st.nm t)) (setTab K n p ts (stopS st t) (past ++ [st]) m)
theorem hp_Standing___init__ (K : PySem.W.Frag) : ∀ ds m R, sp_Standing___init__ K ds m R → T_Standing___init__ K (endsD m R) (startD ["self", "running", "names", "seats", "run"] ds) m := by
  rintro ds m R ⟨n, ts, st, rfl, hn, h⟩
  have hl : n < m.length := (List.getElem?_eq_some_iff.mp hn).1
  simp [T_Standing___init__, startD]
  refine ⟨_, hn, ?_⟩
  simp [hl, putSD]
  exact .same h
theorem hm_Standing (K : PySem.W.Frag) : ∀ ds m R, mk_Standing K ds m R → mkS (ga K "Standing") (sp_Standing___init__ K) (.slt (ga K "Standing") []) ds m (Fin m R) := by
  rintro ds m R ⟨ts, st, rfl, h⟩
  refine ⟨m.length, ts, st, rfl, by simp, rfl, ?_⟩
  rw [app_set0]
  exact Fin.drop (.sltR (Nat.le_refl _) (by simp) (by simp) (.cons (.cl (cl_nmD _ _)) (.cons (.cl (cl_uD _ _ _ _)) (.cons (.cl (cl_tI _ _)) (.cons (.cl (cl_ssD _ _ _)) .nil))))) h
theorem hp_Table___init__ (K : PySem.W.Frag) : ∀ ds m R, sp_Table___init__ K ds m R → T_Table___init__ K (sp_require_threads K) (sp_first_seats K) (mk_Run K) (endsD m R) (startD ["self", "threads"] ds) m := by
  rintro ds m R ⟨n, ts, rfl, hn, ht, h⟩
  have hl : n < m.length := (List.getElem?_eq_some_iff.mp hn).1
  simp [T_Table___init__, startD, sp_require_threads]
  refine ⟨ts, rfl, ht, _, hn, by decide, ?_⟩
  simp [hl]
  refine ⟨ts, rfl, ht, ?_⟩
  simp [hl]
  refine ⟨ts, [], rfl, ht, ⟨by simp, by simp⟩, ?_⟩
  have hl2 : n < m.length + 1 := by omega
  simp [hl, hl2, List.getElem?_append_left, List.set_append_left]
  rw [List.set_append_left _ _ hl] at h
  exact .same h
theorem hm_Table (K : PySem.W.Frag) : ∀ ds m R, mk_Table K ds m R → mkS (ga K "Table") (sp_Table___init__ K) (.ins (ga K "Table") []) ds m (Fin m R) := by
  rintro ds m R ⟨ts, rfl, ht, h⟩
  refine ⟨m.length, ts, rfl, by simp, ht, rfl, .same ?_⟩
  simp
  exact h
theorem hp_Table_threads (K : PySem.W.Frag) : ∀ ds m R, sp_Table_threads K ds m R → T_Table_threads K (endsD m R) (startD ["self"] ds) m := by
  rintro ds m R ⟨n, p, ts, st, past, rfl, T, _, h⟩
  simp [T_Table_threads, startD, tF_all T.ins, tabF]
  exact .same h
theorem hp_Table_running (K : PySem.W.Frag) : ∀ ds m R, sp_Table_running K ds m R → T_Table_running K (endsD m R) (startD ["self"] ds) m := by
  rintro ds m R ⟨n, p, ts, st, past, rfl, T, _, h⟩
  simp [T_Table_running, startD, tF_all T.ins, tabF]
  exact .same h
theorem hp_Table_run (K : PySem.W.Frag) : ∀ ds m R, sp_Table_run K ds m R → T_Table_run K (endsD m R) (startD ["self"] ds) m := by
  rintro ds m R ⟨n, p, ts, st, past, rfl, T, _, h⟩
  simp [T_Table_run, startD, tF_all T.ins, tabF]
  exact .same h
theorem hp_Table___len__ (K : PySem.W.Frag) : ∀ ds m R, sp_Table___len__ K ds m R → T_Table___len__ K (endsD m R) (startD ["self"] ds) m := by
  rintro ds m R ⟨n, p, ts, st, past, rfl, T, _, h⟩
  simp [T_Table___len__, startD, tF_all T.ins, tabF]
  exact .same h
theorem opt_get (o : Option Int) : (o.map D.int).getD D.non = optI o := by cases o <;> rfl
theorem places_nodup {ss : Seats} : ∀ {ts : List Int}, ts.Nodup → ((ts.filterMap fun t => (lk ss t).map fun s => ((Sum.inl t : Key), D.tup [.int s.fi, .int s.di])).map (·.1)).Nodup
  | [], _ => by simp
  | t :: ts, h => by
    rw [List.nodup_cons] at h
    have ih := places_nodup (ss := ss) h.2
    rw [List.filterMap_cons]
    cases e : lk ss t with
    | none => exact ih
    | some s =>
      simp only [Option.map_some, List.map_cons, List.nodup_cons]
      refine ⟨fun z => ?_, ih⟩
      obtain ⟨q, hq, e2⟩ := List.mem_map.mp z
      obtain ⟨u, hu, e3⟩ := List.mem_filterMap.mp hq
      obtain ⟨s', _, e4⟩ := Option.map_eq_some_iff.mp e3
      rw [← e4] at e2
      cases e2
      exact h.1 hu
theorem hp_Table_names (K : PySem.W.Frag) : ∀ ds m R, sp_Table_names K ds m R → T_Table_names K (endsD m R) (startD ["self", "held", "thread"] ds) m := by
  rintro ds m R ⟨n, p, ts, st, past, rfl, T, ok, h⟩
  simp [T_Table_names, startD, tF_all T.ins, tabF, tI]
  refine dcL_ok (f := fun t => some (.inl t, optI (lk st.nm t))) trivial ts [] (fun x hx A B hA => ?_) (by have := ok.2.2.2; simp; unfold sizeLine; omega) ?_
  · simp [dwipe, vl_kv]
    rw [opt_get]
    exact hA
  · rw [show (ts.filterMap fun t => some ((Sum.inl t : Key), optI (lk st.nm t))) = namesP ts st.nm by simp [namesP]]
    rw [fold_pt _ _ (by simp) (by rw [show (namesP ts st.nm).map (·.1) = ts.map Sum.inl by simp [namesP]]; exact nodup_inl (asc_nodup ok.1))]
    exact .same h
theorem hp_Table_places (K : PySem.W.Frag) : ∀ ds m R, sp_Table_places K ds m R → T_Table_places K (endsD m R) (startD ["self", "seats", "one"] ds) m := by
  rintro ds m R ⟨n, p, ts, st, past, rfl, T, ok, h⟩
  simp [T_Table_places, startD, tF_all T.ins, tabF, tI]
  refine dcL_ok (f := fun t => (lk st.ss t).map fun s => ((.inl t : Key), .tup [.int s.fi, .int s.di])) trivial ts [] (fun x hx A B hA => ?_) (by have := ok.2.2.2; simp; unfold sizeLine; omega) ?_
  · simp [dwipe, vl_kv]
    cases e : lk st.ss x with
    | none =>
      rw [e] at hA
      exact .inl ⟨rfl, hA⟩
    | some s =>
      rw [e] at hA
      simp
      exact ⟨by decide, hA⟩
  · rw [fold_pt _ _ (by simp) (places_nodup (asc_nodup ok.1))]
    exact .same h
theorem hp_is_waiting (K : PySem.W.Frag) : ∀ ds m R, sp_is_waiting K ds m R → T_is_waiting K (endsD m R) (startD ["table", "thread"] ds) m := by
  rintro ds m R ⟨n, p, ts, st, past, rfl, T, ok, h⟩
  simp [T_is_waiting, startD, tF_all T.ins, tabF, tI]
  refine lcL_mapO (f := fun t => .bl (lk st.nm t).isNone) trivial st.run [] (fun x hx A B hA => ?_) (by simp; unfold sizeLine; omega) ?_
  · simp [dwipe, tF_all T.ins, tabF, vl_kv]
    exact hA
  · simp
    exact ⟨st.run.map fun t => (lk st.nm t).isNone, by simp [lsqOf, lstOf], by
      rw [List.any_map]
      exact .same h⟩
theorem hp_Table___bool__ (K : PySem.W.Frag) : ∀ ds m R, sp_Table___bool__ K ds m R → T_Table___bool__ K (endsD m R) (startD ["self", "thread"] ds) m := hp_is_waiting K
theorem hp_Table___eq__ (K : PySem.W.Frag) : ∀ ds m R, sp_Table___eq__ K ds m R → T_Table___eq__ K (sp_Run___eq__ K) (endsD m R) (startD ["self", "other"] ds) m := by
  rintro ds m R ⟨n, p, n', p', ts, st, st', past, past', rfl, T, T', e1, e2, hl, h⟩
  simp [T_Table___eq__, startD, tF_all T.ins, tF_all T'.ins, tabF, e1, e2]
  exact ⟨⟨_, T'.ins⟩, ts, st'.rs, rfl, by rw [← e2]; exact hl, .same h⟩
theorem hp_Table___str__ (K : PySem.W.Frag) : ∀ ds m R, sp_Table___str__ K ds m R → T_Table___str__ K (endsD m R) (startD ["self", "count", "named"] ds) m := by
  rintro ds m R ⟨n, p, ts, st, past, rfl, T, ok, h⟩
  simp [T_Table___str__, startD, tF_all T.ins, tabF, dJs]
  have n1 : ∀ k : Nat, k ≤ 1000 → (Str.ofString (toString ((k : Nat) : Int))).length ≤ 10 := fun k hk => by
    rw [TL.len_tl]
    show (tl (Str.ofString (toString ((k : Nat) : Int)))).length ≤ 10
    rw [TL.tl_num]
    exact TL.numL_len (by decide) (by omega)
  have a1 := n1 ts.length (by omega)
  have a2 := n1 st.rs.length (by omega)
  have a3 := n1 st.nm.length (by omega)
  have b1 : ("table of " : Str).length = 9 := by decide +kernel
  have b2 : (" threads: " : Str).length = 10 := by decide +kernel
  have b3 : (" rounds, " : Str).length = 9 := by decide +kernel
  have b4 : (" named" : Str).length = 6 := by decide +kernel
  have b5 : (Str.empty : Str).length = 0 := by decide +kernel
  have c1 : ∀ k : Nat, k ≤ 1000 → k.log2 < 1920 := fun k hk => log2_lt (Nat.lt_of_le_of_lt hk (by decide +kernel)) (by decide)
  have e : ∀ x : Int, Int.repr x = toString x := fun x => rfl
  simp only [e, kv_length, Str.length_append, b1, b2, b3, b4, b5]
  unfold sizeLine
  refine ⟨by omega, c1 _ (by omega), by omega, by omega, c1 _ (by omega), by omega, by omega, c1 _ (by omega), by omega, by omega, .same h⟩
theorem hp_Table_keep_now (K : PySem.W.Frag) : ∀ ds m R, sp_Table_keep_now K ds m R → T_Table_keep_now K (mk_Standing K) (endsD m R) (startD ["self"] ds) m := by
  rintro ds m R ⟨n, p, ts, st, past, rfl, T, ok, h⟩
  simp [T_Table_keep_now, startD, tF_all T.ins, tabF]
  refine ⟨⟨rfl, _, by simp [lsqOf, lstOf, T.lst]; rfl⟩, ts, st, rfl, _, T.lst, by simp; unfold sizeLine; omega, .same ?_⟩
  have e : setTab K n p ts st (past ++ [st]) m = m.set p (.lst (past.map (stD K ts) ++ [stD K ts st])) := by
    unfold setTab
    rw [List.set_comm _ _ (Ne.symm T.ne)]
    have : m.set n (.ins (ga K "Table") (tabF K ts st p)) = m := by
      obtain ⟨hl, e⟩ := List.getElem?_eq_some_iff.mp T.ins
      rw [← e]; simp
    rw [this, List.map_append]
    rfl
  rw [← e]
  exact h
theorem in_ints (t : Int) (ns : List Int) : inD (.int t) (ns.map .int) = decide (t ∈ ns) := by
  unfold inD
  induction ns with
  | nil => rfl
  | cons n ns ih =>
    unfold inV at ih ⊢
    rw [List.map_cons, List.map_cons, List.any_cons, ih]
    simp [DL.toV, L2.eqV]
    by_cases h : n = t
    · simp [h]
    · have h2 : ¬ t = n := fun e => h e.symm
      simp [h, h2]
theorem flat_ints (ns : List Int) : (ns.map D.int).all flatD = true := by simp
theorem SeOk.le {k k' : Nat} {s : Se} (h : SeOk k s) (l : k ≤ k') : SeOk k' s := ⟨h.1, by have := h.2; omega, by have := h.2; omega, by have := h.2; omega⟩
theorem sbh_len {bs : Bs} (ok : OkBs bs) (ss : Seats) : (sbh ss bs).2.length ≤ 5 := by
  have key : ∀ (xs : List Int) (acc : Seats × Names), (xs.foldl (sbStep ss bs) acc).2.length ≤ acc.2.length + xs.length := by
    intro xs
    induction xs with
    | nil => intro acc; exact Nat.le_refl _
    | cons x xs ih =>
      intro acc
      rw [List.foldl_cons, List.length_cons]
      have h1 := ih (sbStep ss bs acc x)
      have h2 : (sbStep ss bs acc x).2.length ≤ acc.2.length + 1 := by
        unfold sbStep
        split
        · exact Nat.le_succ _
        · split
          · exact put_length _ _ _
          · exact Nat.le_succ _
      omega
  have h1 := key (rTh bs) (ss, [])
  have h2 : (rTh bs).length = bs.flatten.length := (srt_perm bs.flatten).length_eq
  have := ok.2.2.1
  show (((rTh bs).foldl (sbStep ss bs) (ss, [])).2).length ≤ 5
  simp only [List.length_nil] at h1
  omega
theorem hp_Table_go (K : PySem.W.Frag) : ∀ ds m R, sp_Table_go K ds m R → T_Table_go K (sp_Table_keep_now K) (mk_Round K) (sp_seats_behind K) (mk_Run K) (endsD m R) (startD ["self", "extra", "stopped", "whole", "taken", "thread"] ds) m := by
  rintro ds m R ⟨n, p, ts, st, past, bs, rfl, T, wf, okb, hr, hl, hp, ht, h⟩
  simp [T_Table_go, startD, tF_all T.ins, tabF]
  refine ⟨hr, by omega, ⟨_, T.ins, tF_no (by decide)⟩, n, p, ts, st, past, rfl, T, hp, ?_⟩
  have T1 := T.set (st' := st) (past' := past ++ [st])
  have ht1 := T.hasT (st' := st) (past' := past ++ [st]) ht
  rw [← setTab_set T.ne (st := st) (past := past ++ [st])] at h
  generalize setTab K n p ts st (past ++ [st]) m = m1 at T1 ht1 h ⊢
  simp [tF_all T1.ins, tabF, tI]
  have hl1 := T1.ln
  obtain ⟨wo, wt⟩ := whole_ok wf.ot wf.sub okb hr
  refine lcL_filO (c := D.int) (f := fun t => if decide (t ∉ st.run) = true then some (.tup [.int t]) else none) trivial ts [] (fun x hx A B hA => ?_) (by have := wf.ot.2.2.2; simp; unfold sizeLine; omega) ?_
  · simp [dwipe, tF_all T1.ins, tabF, in_ints]
    by_cases hx2 : x ∈ st.run
    · simp [hx2] at hA
      exact .inl ⟨hx2, hA⟩
    · simp [hx2] at hA
      exact .inr ⟨hx2, by decide, hA⟩
  · rw [List.nil_append, filMap]
    have hfl : (ts.filter fun t => decide (t ∉ st.run)).length ≤ 5 := Nat.le_trans (List.length_filter_le _ _) wf.ot.2.2.2
    have hbl := okb.len
    have e1 : D.tup (bs.map tI ++ (ts.filter fun t => decide (t ∉ st.run)).map fun t => D.tup [.int t]) = tB (wholeB ts st.run bs) := by
      simp [tB, wholeB, tI]
    simp
    refine ⟨by simp at hfl; unfold sizeLine; omega, wholeB ts st.run bs, by simp at e1; rw [e1], wo, ?_⟩
    simp [tF_all T1.ins, tabF]
    refine ⟨st.ss, bs, rfl, okb, ?_, by have := wf.sl; have := wf.rs.1; omega, ht1, ?_⟩
    · exact fun q hq => (wf.so q hq).le (by omega)
    simp [T1.ins, tabF]
    simp [hl1]
    have lt := sbh_len okb st.ss
    refine ⟨by rw [kv_length]; have := wf.nl; omega, by rw [kv_length]; omega, by unfold sizeLine; omega, ts, st.rs ++ [wholeB ts st.run bs], by simp, wf.ot, ⟨by simp; omega, fun r hr' => ?_⟩, ?_⟩
    · rcases List.mem_append.mp hr' with e | e
      · exact wf.rs.2 r e
      · rw [List.mem_singleton.mp e]; exact ⟨wo, wt⟩
    simp [hl1]
    rw [T1.ins_only] at h
    have e2 : mgD [] (kvD D.int st.nm) = kvD D.int (mg [] st.nm) := mg_kv (f := D.int) [] st.nm
    rw [e2, mg_kv]
    exact .same h
theorem hp_Table_stop (K : PySem.W.Frag) : ∀ ds m R, sp_Table_stop K ds m R → T_Table_stop K (sp_is_old_name K) (sp_Table_keep_now K) (endsD m R) (startD ["self", "thread", "one"] ds) m := by
  rintro ds m R ⟨n, p, ts, st, past, t, rfl, T, wf, hr, hl, hp, h⟩
  have hlen : st.run.length ≤ 5 := Nat.le_trans wf.sub.length_le wf.ot.2.2.2
  simp [T_Table_stop, startD, tF_all T.ins, tabF]
  have ht := wf.ot.2.1 t (wf.sub.mem hr)
  refine ⟨t, rfl, ht.1, ht.2, rfl, ?_⟩
  simp [tF_all T.ins, tabF, in_ints, hr]
  refine ⟨by omega, ⟨_, T.ins, tF_no (by decide)⟩, n, p, ts, st, past, rfl, T, hp, ?_⟩
  have T1 := T.set (st' := st) (past' := past ++ [st])
  rw [← setTab_set T.ne (st := st) (past := past ++ [st])] at h
  generalize setTab K n p ts st (past ++ [st]) m = m1 at T1 h ⊢
  have hl1 := T1.ln
  simp [tF_all T1.ins, tabF, tI]
  refine lcL_filO (c := D.int) (f := fun o => if decide (o ≠ t) = true then some (.int o) else none) trivial st.run [] (fun x hx A B hA => ?_) (by simp; unfold sizeLine; omega) ?_
  · simp [dwipe]
    by_cases hx2 : x = t
    · simp [hx2] at hA
      exact .inl ⟨hx2, hA⟩
    · simp [hx2] at hA
      exact .inr ⟨hx2, hA⟩
  · rw [List.nil_append, filMap]
    simp [T1.ins, tabF]
    simp [hl1, vl_kv]
    rw [T1.ins_only] at h
    rw [opt_get]
    refine .same ?_
    have e : tabF K ts (stopS st t) p = tF (tI ts) (.tup ((st.run.filter fun o => decide (o ≠ t)).map .int)) (nmD st.nm) (ssD K st.ss) (uD K ts st.rs) (.ref p) := rfl
    rw [e] at h
    simpa using h
end FN
set_option Elab.async false
set_option linter.all false
set_option maxRecDepth 100000
set_option maxHeartbeats 4000000
/-! P5: finishing, undoing, twins -/
namespace FN
open PySem PySem.Spec PyProof.Rows L2 SlX DL
open TL (tl)
def fbS (b : Bool) (run : List Int) : Bs := if b then [run] else run.map fun t => [t]
def itS (ts : List Int) (bs : Bs) (st : St) : Nat → St
  | 0 => st
  | k + 1 => goS ts (itS ts bs st k) bs
def itP (ts : List Int) (bs : Bs) (st : St) (past : List St) : Nat → List St
  | 0 => past
  | k + 1 => itP ts bs st past k ++ [itS ts bs st k]
theorem itS_run (ts : List Int) (bs : Bs) (st : St) : ∀ k, (itS ts bs st k).run = st.run
  | 0 => rfl
  | k + 1 => itS_run ts bs st k
theorem itS_len (ts : List Int) (bs : Bs) (st : St) : ∀ k, (itS ts bs st k).rs.length = st.rs.length + k
  | 0 => rfl
  | k + 1 => by
    show ((itS ts bs st k).rs ++ [_]).length = _
    rw [List.length_append, itS_len ts bs st k, List.length_singleton]
    omega
theorem itP_len (ts : List Int) (bs : Bs) (st : St) (past : List St) : ∀ k, (itP ts bs st past k).length = past.length + k
  | 0 => rfl
  | k + 1 => by
    show (itP ts bs st past k ++ [_]).length = _
    rw [List.length_append, itP_len ts bs st past k, List.length_singleton]
    omega
theorem itS_wf {ts : List Int} {bs : Bs} {st : St} (w : Wf ts st) (hb : OkBs bs) (hr : rTh bs = st.run) : ∀ k, st.rs.length + k ≤ 6 → Wf ts (itS ts bs st k)
  | 0, _ => w
  | k + 1, h => wf_go (itS_wf w hb hr k (by omega)) hb (by rw [itS_run]; exact hr) (by rw [itS_len]; omega)
theorem okTh_sub {ts run : List Int} (h : OkTh ts) (s : run.Sublist ts) (ne : run ≠ []) : OkTh run :=
  ⟨h.1.sublist s, fun n hn => h.2.1 n (s.mem hn), List.length_pos_iff.mpr ne, Nat.le_trans s.length_le h.2.2.2⟩
theorem srt_id {xs : List Int} (h : xs.Pairwise (· < ·)) : srt xs = xs := asc_eq (srt_asc (asc_nodup h)) h fun k => mem_srt
theorem fbS_ok {run : List Int} (h : OkTh run) (b : Bool) : OkBs (fbS b run) ∧ rTh (fbS b run) = run := by
  unfold fbS
  cases b with
  | true =>
    simp only [if_true]
    refine ⟨⟨by simpa using h, by simpa using h.2.2.1, by simpa using h.2.2.2, by simpa using asc_nodup h.1⟩, ?_⟩
    unfold rTh
    simp
    exact srt_id h.1
  | false =>
    simp only [Bool.false_eq_true, if_false]
    refine ⟨⟨fun b hb => ?_, by rw [flat_single]; exact h.2.2.1, by rw [flat_single]; exact h.2.2.2, by rw [flat_single]; exact asc_nodup h.1⟩, ?_⟩
    · obtain ⟨t, ht, rfl⟩ := List.mem_map.mp hb
      exact ⟨by simp, by simpa using h.2.1 t ht, by simp, by simp⟩
    · unfold rTh
      rw [flat_single]
      exact srt_id h.1
def sp_Table_finish (K : PySem.W.Frag) : DRs := fun ds m R => ∃ (n p : Nat) (ts : List Int) (st : St) (past : List St) (b : Bool), ds = [.ref n, .bl b] ∧ Tab K n p ts st past m ∧ Wf ts st ∧ past.length ≤ 900 ∧ hasT (tbP K "place_of") m ∧
  ∀ k : Nat, st.rs.length + k ≤ 6 → R (.int k) (setTab K n p ts (itS ts (fbS b st.run) st k) (itP ts (fbS b st.run) st past k) m)
def sp_Table_undo (K : PySem.W.Frag) : DRs := fun ds m R => ∃ (n p : Nat) (ts : List Int) (st : St) (past : List St) (k : Nat), ds = [.ref n, .int k] ∧ Tab K n p ts st past m ∧ k ≤ past.length ∧ past.length ≤ 1000 ∧
  ∀ st' past', past' ++ [st'] = (past ++ [st]).take (past.length + 1 - k) → R (tI st'.run) (setTab K n p ts st' past' m)
def sp_Table_undo0 (K : PySem.W.Frag) : DRs := fun ds m R => ∃ n : Nat, ds = [.ref n] ∧ sp_Table_undo K [.ref n, .int 1] m R
def sp_Table_twin (K : PySem.W.Frag) : DRs := fun ds m R => ∃ (n p : Nat) (ts : List Int) (st : St) (past : List St), ds = [.ref n] ∧ Tab K n p ts st past m ∧ OkTh ts ∧
  R (.ref m.length) (m ++ [.ins (ga K "Table") (tabF K ts st (m.length + 2)), .lst [], .lst (past.map (stD K ts))])
theorem hp_Table_finish (K : PySem.W.Frag) : ∀ ds m R, sp_Table_finish K ds m R → T_Table_finish K (sp_is_waiting K) (sp_Table_go K) (mk_Round K) (endsD m R) (startD ["self", "joint", "blocks", "count", "thread"] ds) m := by
  rintro ds m R ⟨n, p, ts, st, past, b, rfl, T, wf, hp, ht, h⟩
  have orun := okTh_sub wf.ot wf.sub wf.ne
  obtain ⟨ob, or⟩ := fbS_ok orun b
  have loop : ∀ x, dWhile
        (dAnd (dTB (dCall (sp_is_waiting K) (dCons (dVar 0) dNil)))
          (dTB (dOp (dI0 fun i j => .bl (decide (i < j))) (dCall dLen (dCons (dSlot (ga K "Run") 0 (dFld (ga K "Table") "own_run" (dVar 0))) dNil)) (dC (.int 6)))))
        (dSeq (dDrop (dMethI (ga K "Table") "go" (sp_Table_go K) (dVar 0) (dCons (dCall (mk_Round K) (dCons (dVar 2) dNil)) dNil))) (dAug 3 (dC (.int 1)) dIAdd))
        { (endsD m R) with nx := dRet (dVar 3) (endsD m R) } [some (.ref n), some (.bl b), some (tB (fbS b st.run)), some (.int 0), x] m := by
    intro x
    refine ⟨fun j δ m' => ∃ k, k + j = 6 - st.rs.length ∧ st.rs.length + k ≤ 6 ∧ δ = [some (.ref n), some (.bl b), some (tB (fbS b st.run)), some (.int k), x] ∧ m' = setTab K n p ts (itS ts (fbS b st.run) st k) (itP ts (fbS b st.run) st past k) m,
      ⟨6 - st.rs.length, 0, by omega, by have := wf.rs.1; omega, rfl, T.same.symm⟩, ?_⟩
    rintro j δ m' ⟨k, h1, h2, rfl, rfl⟩
    have T1 := T.set (st' := itS ts (fbS b st.run) st k) (past' := itP ts (fbS b st.run) st past k)
    have ht1 := T.hasT (st' := itS ts (fbS b st.run) st k) (past' := itP ts (fbS b st.run) st past k) ht
    have wf1 := itS_wf wf ob or k h2
    have hrun := itS_run ts (fbS b st.run) st k
    have hlen := itS_len ts (fbS b st.run) st k
    have hplen := itP_len ts (fbS b st.run) st past k
    have hN : ∀ st' past', setTab K n p ts st' past' m = setTab K n p ts st' past' (setTab K n p ts (itS ts (fbS b st.run) st k) (itP ts (fbS b st.run) st past k) m) := fun st' past' => (setTab_set T.ne).symm
    have hfin := h k h2
    have hstep : setTab K n p ts (itS ts (fbS b st.run) st (k + 1)) (itP ts (fbS b st.run) st past (k + 1)) m = setTab K n p ts (goS ts (itS ts (fbS b st.run) st k) (fbS b st.run)) (itP ts (fbS b st.run) st past k ++ [itS ts (fbS b st.run) st k]) (setTab K n p ts (itS ts (fbS b st.run) st k) (itP ts (fbS b st.run) st past k) m) := by
      rw [← hN]; rfl
    generalize setTab K n p ts (itS ts (fbS b st.run) st k) (itP ts (fbS b st.run) st past k) m = m1 at *
    generalize itS ts (fbS b st.run) st k = s1 at *
    generalize itP ts (fbS b st.run) st past k = p1 at *
    simp
    refine ⟨n, p, ts, s1, p1, rfl, T1, by show s1.run.length ≤ 5; rw [hrun]; exact orun.2.2.2, ?_⟩
    cases hw : waitS s1 with
    | false => exact .inl ⟨congrArg D.bl hw, .same hfin⟩
    | true =>
      refine .inr ⟨congrArg D.bl hw, _, by rw [tF_all T1.ins]; rfl, _, u_slot0 _ _, _, rfl, ?_⟩
      simp
      by_cases h6 : s1.rs.length < 6
      · refine .inr ⟨by omega, fun δ' m' => δ' = [some (.ref n), some (.bl b), some (tB (fbS b st.run)), some (.int (k + 1)), x] ∧ m' = setTab K n p ts (itS ts (fbS b st.run) st (k + 1)) (itP ts (fbS b st.run) st past (k + 1)) m, ?_, ⟨_, T1.ins, tF_no (by decide)⟩, fbS b st.run, rfl, ob, n, p, ts, s1, p1, fbS b st.run, rfl, T1, wf1, ob, or.trans hrun.symm, h6, by omega, ht1, rfl, hstep.symm⟩
        rintro δ' m' ⟨rfl, rfl⟩
        exact ⟨j - 1, by omega, k + 1, by omega, by omega, rfl, rfl⟩
      · exact .inl ⟨by omega, .same hfin⟩
  simp [T_Table_finish, startD, tF_all T.ins, tabF]
  cases b with
  | true => exact .inr ⟨rfl, by decide, loop none⟩
  | false =>
    refine .inl ⟨rfl, ?_⟩
    refine lcL_mapO (α := Int) (c := D.int) (f := fun t => tI [t]) trivial st.run [] (fun x hx A B hA => ?_) (by have := orun.2.2.2; simp; unfold sizeLine; omega) ?_
    · simp [dwipe]
      exact ⟨by decide, hA⟩
    · have e : D.tup ([] ++ st.run.map fun t => tI [t]) = tB (fbS false st.run) := by simp [fbS, tB]
      have := loop none
      rw [← e] at this
      exact this
theorem unS_step {past : List St} {st a : St} {k : Nat} {q : List St} (h : q ++ [a] = (past ++ [st]).take (past.length + 1 - k)) (hk : k < past.length) : ∃ q' a', q = q' ++ [a'] ∧ q' ++ [a'] = (past ++ [st]).take (past.length + 1 - (k + 1)) := by
  have hl := congrArg List.length h
  rw [List.length_append, List.length_take, List.length_append, List.length_singleton, List.length_singleton] at hl
  have hq : q ≠ [] := fun e => by rw [e] at hl; simp at hl; omega
  obtain ⟨q', a', rfl⟩ : ∃ q' a', q = q' ++ [a'] := ⟨q.dropLast, q.getLast hq, (List.dropLast_concat_getLast hq).symm⟩
  refine ⟨q', a', rfl, ?_⟩
  have h2 := congrArg (fun l => l.take (past.length - k)) h
  simp only [List.take_take] at h2
  rw [show min (past.length - k) (past.length + 1 - k) = past.length + 1 - (k + 1) by omega] at h2
  rw [← h2, List.take_append_of_le_length (by rw [List.length_append] at hl ⊢; simp at hl ⊢; omega), List.take_of_length_le (by rw [List.length_append] at hl ⊢; simp at hl ⊢; omega)]
theorem hp_Table_undo (K : PySem.W.Frag) : ∀ ds m R, sp_Table_undo K ds m R → T_Table_undo K (sp_is_integer K) (endsD m R) (startD ["self", "many", "turn", "standing"] ds) m := by
  rintro ds m R ⟨n, p, ts, st, past, k, rfl, T, hk, hp, h⟩
  simp [T_Table_undo, startD, sp_is_integer]
  refine ⟨by unfold big; omega, by unfold big; omega, ?_⟩
  simp [tF_all T.ins, tabF]
  refine ⟨past.length, by simp [lenOf, seqOf, lstOf, T.lst], by omega, by omega, ?_⟩
  unfold rngD
  refine forL_O (c := fun k : Nat => D.int (0 + (k : Int))) (I := fun done rest δ m' => done.length + rest.length = k ∧ (∃ x y, δ = [some (.ref n), some (.int k), x, y]) ∧ ∃ q a, q ++ [a] = (past ++ [st]).take (past.length + 1 - done.length) ∧ m' = setTab K n p ts a q m) (fun _ _ _ _ _ => trivial) (fun ds δ m' ⟨h1, ⟨x, y, h2⟩, q, a, h3, h4⟩ => ?_) (fun ds x xs δ m' ⟨h1, ⟨y, z, h2⟩, q, a, h3, h4⟩ N hN => ?_) [] _ _ _ ⟨by simp, ⟨_, _, rfl⟩, past, st, by rw [List.take_of_length_le (by simp)], T.same.symm⟩
  · subst h2 h4
    have T1 := T.set (st' := a) (past' := q)
    simp [tF_all T1.ins, tabF]
    simp only [List.length_nil, Nat.add_zero] at h1
    rw [h1] at h3
    exact .same (h a q h3)
  · subst h2 h4
    have T1 := T.set (st' := a) (past' := q)
    have hk2 : ds.length < past.length := by simp only [List.length_cons] at h1; omega
    obtain ⟨q', a', rfl, h5⟩ := unS_step h3 hk2
    have hst : ∀ st' past', setTab K n p ts st' past' m = setTab K n p ts st' past' (setTab K n p ts a (q' ++ [a']) m) := fun st' past' => (setTab_set T.ne).symm
    have hN2 := hN [some (.ref n), some (.int k), some (.int x), some (stD K ts a')] (setTab K n p ts a' q' m) ⟨by simp only [List.length_append, List.length_cons, List.length_nil] at h1 ⊢; omega, ⟨_, _, rfl⟩, q', a', by simpa using h5, rfl⟩
    rw [hst] at hN2
    generalize setTab K n p ts a (q' ++ [a']) m = m1 at *
    have hl1 := T1.ln
    have hl2 := T1.lp
    have hne := T1.ne
    simp [tF_all T1.ins, tabF]
    refine ⟨⟨rfl, _, by simp [lsqOf, lstOf, T1.lst]; rfl⟩, _, T1.lst, stD K ts a', by simp, ?_⟩
    simp
    have g0 : ∀ X, (m1.set p X)[n]? = some (.ins (ga K "Table") (tabF K ts a p)) := fun X => by
      rw [List.getElem?_set_ne (Ne.symm hne)]; exact T1.ins
    simp [g0, tabF]
    simp [hl1]
    exact ⟨by decide, hN2⟩
theorem hp_Table_twin (K : PySem.W.Frag) : ∀ ds m R, sp_Table_twin K ds m R → T_Table_twin K (mk_Table K) (endsD m R) (startD ["self", "made"] ds) m := by
  rintro ds m R ⟨n, p, ts, st, past, rfl, T, ok, h⟩
  simp [T_Table_twin, startD, tF_all T.ins, tabF]
  refine ⟨ts, rfl, ok, ?_⟩
  have e0 : ∀ X, (m ++ X)[n]? = some (.ins (ga K "Table") (tabF K ts st p)) := fun X => by
    rw [List.getElem?_append_left T.ln]; exact T.ins
  have e1 : ∀ X g, fldOf (ga K "Table") g (m ++ X) (.ref n) = (tabF K ts st p).lookup g := fun X g => tF_all (e0 X) g
  have e2 : ∀ X, seqOf (.ref p) (m ++ X) = some (past.map (stD K ts)) := fun X => by
    simp [seqOf, lstOf]
    rw [List.getElem?_append_left T.lp, T.lst]
  simp [e1, tabF]
  simp [e2]
  exact ⟨by decide, .same h⟩
end FN
set_option Elab.async false
set_option linter.all false
set_option maxRecDepth 100000
set_option maxHeartbeats 4000000
/-! P6: draws -/
namespace FN
open PySem PySem.Spec PyProof.Rows L2 SlX DL
abbrev Pv := Int × Int × Int
def potO (v : Pv) : MO := .lst [.int v.1, .int v.2.1, .int v.2.2]
def PB (n : Nat) (v : Pv) : Prop := (0 ≤ v.1 ∧ v.1 < 10 ^ 600) ∧ (0 ≤ v.2.1 ∧ v.2.1 < 2 ^ 61) ∧ 0 ≤ v.2.2 ∧ v.2.2 ≤ (n : Int)
theorem PB.mono {n k : Nat} {v : Pv} (h : PB n v) (l : n ≤ k) : PB k v := ⟨h.1, h.2.1, h.2.2.1, by have := h.2.2.2; omega⟩
def sp__law_filled (K : PySem.W.Frag) : DRs := fun ds m R => ∃ (ns : List Int) (a : Nat), ds = [.fls (ns.map .int), .int a] ∧ a < 64 ∧ ∀ v : Pv, PB 0 v → R (.ref m.length) (m ++ [potO v])
def sp__law_dip (K : PySem.W.Frag) : DRs := fun ds m R => ∃ (q n : Nat) (v : Pv) (t : Int), ds = [.ref q, .int t] ∧ m[q]? = some (potO v) ∧ PB n v ∧ n < 2 ^ 60 ∧ 0 < t ∧ t < 10 ^ 60 ∧ ∀ (r : Int) (v' : Pv), 0 ≤ r → r < t → PB (n + 1) v' → R (.int r) (m.set q (potO v'))
def sp__law_choose (K : PySem.W.Frag) : DRs := fun ds m R => ∃ (q n : Nat) (v : Pv) (xs : List D) (d : D), ds = [.ref q, d] ∧ (d = .lst xs ∨ d = .tup xs) ∧ m[q]? = some (potO v) ∧ PB n v ∧ n < 2 ^ 60 ∧ xs ≠ [] ∧ xs.length < 1000 ∧ ∀ x ∈ xs, ∀ v' : Pv, PB (n + 1) v' → R x (m.set q (potO v'))
def sp__law_shuffled (K : PySem.W.Frag) : DRs := fun ds m R => ∃ (q n : Nat) (v : Pv) (xs : List Int), ds = [.ref q, .lst (xs.map .int)] ∧ m[q]? = some (potO v) ∧ PB n v ∧ n + xs.length < 2 ^ 60 ∧ xs.length < 1000 ∧ ∀ ys : List Int, ys.Perm xs → ∀ v' : Pv, PB (n + xs.length) v' → R (.lst (ys.map .int)) (m.set q (potO v'))
def sp__law_old_names (K : PySem.W.Frag) : DRs := fun ds m R => ∃ (q n : Nat) (v : Pv) (k : Nat), ds = [.ref q, .int k] ∧ m[q]? = some (potO v) ∧ PB n v ∧ n + 6 < 2 ^ 60 ∧ 1 ≤ k ∧ k ≤ 5 ∧ ∀ ns : List Int, OkTh ns → ∀ v' : Pv, PB (n + 6) v' → R (tI ns) (m.set q (potO v'))
def sp__law_blocks (K : PySem.W.Frag) : DRs := fun ds m R => ∃ (q n : Nat) (v : Pv) (ts : List Int), ds = [.ref q, tI ts] ∧ m[q]? = some (potO v) ∧ PB n v ∧ n + 11 < 2 ^ 60 ∧ OkTh ts ∧ ∀ bs : Bs, OkBs bs → rTh bs = ts → ∀ v' : Pv, PB (n + 11) v' → R (tB bs) (m.set q (potO v'))
theorem ix_lst {m : Mu} {q : Nat} {xs : List D} (hq : m[q]? = some (.lst xs)) (i : Int) : ixD m (.ref q) i = atI xs i := by simp [ixD, seqOf, lstOf, hq]
theorem ix_setl {m : Mu} {q : Nat} {xs : List D} (hl : q < m.length) (i : Int) : ixD (m.set q (.lst xs)) (.ref q) i = atI xs i := by simp [ixD, seqOf, lstOf, hl]
@[simp] theorem at3_0 (x y z : D) : atI [x, y, z] 0 = some x := by simp [atI, ixN]
@[simp] theorem at3_1 (x y z : D) : atI [x, y, z] 1 = some y := by simp [atI, ixN]
@[simp] theorem at3_2 (x y z : D) : atI [x, y, z] 2 = some z := by simp [atI, ixN]
@[simp] theorem ixN3_0 : ixN 3 0 = some 0 := by simp [ixN]
@[simp] theorem ixN3_2 : ixN 3 2 = some 2 := by simp [ixN]
theorem cmulI {i j : Int} (h1 : -1000000000000000000000000000 < i ∧ i < 1000000000000000000000000000) (h2 : -1000000000000000000000000000 < j ∧ j < 1000000000000000000000000000) : CMulW i j := cmulS (by omega) (by omega)
theorem hp__law_dip (K : PySem.W.Frag) : ∀ ds m R, sp__law_dip K ds m R → T__law_dip K (endsD m R) (startD ["pot", "total", "found", "one", "two"] ds) m := by
  rintro ds m R ⟨q, n, ⟨a, b, c⟩, t, rfl, hq, ⟨⟨a0, a1⟩, ⟨b0, b1⟩, c0, c1⟩, hn, h0, h1, h⟩
  simp only [potO] at hq
  simp only at a0 a1 b0 b1 c0 c1
  have hl : q < m.length := (List.getElem?_eq_some_iff.mp hq).1
  simp [T__law_dip, startD, ix_lst hq]
  by_cases ha : a ≤ 0
  · refine .inl ⟨ha, _, hq, 2, by simp, ?_⟩
    simp [ix_setl hl]
    generalize hx : (b * 3935559000370003845 + (c + 1) * 2691343689449507681) % 2305843009213693951 = x
    have x0 : 0 ≤ x ∧ x < 2305843009213693951 := by omega
    generalize hy : (x * x + 40503 * (c + 1)) % 1152921504606846883 = y
    have y0 : 0 ≤ y ∧ y < 1152921504606846883 := by omega
    refine ⟨cmulI (by omega) (by omega), cmulI (by omega) (by omega), cmulI (by omega) (by omega), cmulI (by omega) (by omega), cmulI (by omega) (by omega), ⟨by decide, by decide +kernel⟩, h0, .same ?_⟩
    exact h _ (a, b, c + 1) (Int.emod_nonneg _ (by omega)) (Int.emod_lt_of_pos _ h0) ⟨⟨a0, a1⟩, ⟨b0, b1⟩, by simp only; omega, by simp only; omega⟩
  · refine .inr ⟨by omega, h0, ⟨h0, ?_⟩, _, hq, 0, by simp, ?_⟩
    · refine log2_lt ?_ (by decide)
      have : t.natAbs < 10 ^ 60 := by omega
      exact Nat.lt_of_lt_of_le this (by decide +kernel)
    · simp
      refine .same (h _ (a / t, b, c) (Int.emod_nonneg _ (by omega)) (Int.emod_lt_of_pos _ h0) ⟨⟨Int.ediv_nonneg a0 (by omega), ?_⟩, ⟨b0, b1⟩, c0, by simp only; omega⟩)
      simp only
      exact Int.lt_of_le_of_lt (Int.ediv_le_self _ a0) a1
theorem hp__law_filled (K : PySem.W.Frag) : ∀ ds m R, sp__law_filled K ds m R → T__law_filled K (endsD m R) (startD ["script", "at", "cell", "whole", "mixed"] ds) m := by
  rintro ds m R ⟨ns, a, rfl, ha, h⟩
  have fin : ∀ (w y : Int), 0 ≤ w → w < 10 ^ 600 → DL.Fin m R (D.ref m.length) (m ++ [MO.lst [D.int (if 1000000000000000000 < w then w - 1000000000000000000 else 0), D.int (y % 2305843009213693921), D.int 0]]) := fun w y h0 h1 => by
    refine .same (h (if 1000000000000000000 < w then w - 1000000000000000000 else 0, y % 2305843009213693921, 0) ⟨?_, by simp only; omega, by simp⟩)
    simp only
    generalize (10 : Int) ^ 600 = t at *
    split <;> omega
  have e600 : (10 : Int) ^ 600 = 1000000000000000000000000000000000000000000000000000000000000000000000000000000000000000000000000000000000000000000000000000000000000000000000000000000000000000000000000000000000000000000000000000000000000000000000000000000000000000000000000000000000000000000000000000000000000000000000000000000000000000000000000000000000000000000000000000000000000000000000000000000000000000000000000000000000000000000000000000000000000000000000000000000000000000000000000000000000000000000000000000000000000000000000000000000000000000000000000000000000000000000000000000000000000000000000000000000000000000000000000 := by decide +kernel
  simp [T__law_filled, startD]
  rw [← e600]
  refine ⟨ns.length, by simp [lenOf, seqOf], ?_⟩
  by_cases ha2 : ns.length ≤ a
  · refine .inl ⟨ha2, cmulI (by omega) (by omega), ⟨by decide, by decide +kernel⟩, ⟨by decide, by decide +kernel⟩, cmulI (by omega) (by omega), cmulI (by omega) (by split <;> omega), ⟨by decide, by decide +kernel⟩, by decide, fin _ _ (Int.emod_nonneg _ ?_) (Int.emod_lt_of_pos _ ?_)⟩ <;> rw [e600] <;> decide +kernel
  · have hx : a < ns.length := by omega
    refine .inr ⟨by omega, .int ns[a], by simp [ixD, seqOf, atI, ixN, hx], _, rfl, ⟨by decide, by decide +kernel⟩, ⟨by decide, by decide +kernel⟩, cmulI (by omega) (by omega), _, rfl, cmulI (by omega) (by split <;> omega), ⟨by decide, by decide +kernel⟩, by decide, fin _ _ (Int.emod_nonneg _ ?_) (Int.emod_lt_of_pos _ ?_)⟩ <;> rw [e600] <;> decide +kernel
theorem lcL_O {α : Type} {c : α → D} {g : TDG} {te : TDE} {δ : DS} {P : Mu → Prop} {Rd : List D → Mu → Prop} (I : List α → List D → Mu → Prop) (h0 : ∀ xs acc m, I xs acc m → P m ∧ acc.length + xs.length ≤ sizeLine) (hE : ∀ acc m, I [] acc m → Rd acc m)
    (hs : ∀ x xs acc m, I (x :: xs) acc m → ∀ N : D → Mu → Prop, (∀ y m', I xs (acc ++ [y]) m' → N y m') → g (c x) δ m fun δ2 m2 => te δ2 m2 N) : ∀ xs acc m, I xs acc m → lcL g dYes te δ P Rd (xs.map c) acc m
  | [], acc, m, h => ⟨(h0 _ _ _ h).1, hE _ _ h⟩
  | x :: xs, acc, m, h => by
    obtain ⟨h1, h2⟩ := h0 _ _ _ h
    refine ⟨h1, ?_⟩
    simp only [s_dYes, if_true]
    refine hs x xs acc m h _ fun y m' h' => ⟨?_, lcL_O I h0 hE hs xs (acc ++ [y]) m' h'⟩
    rw [List.length_cons] at h2
    omega
theorem hp__law_choose (K : PySem.W.Frag) : ∀ ds m R, sp__law_choose K ds m R → T__law_choose K (sp__law_dip K) (endsD m R) (startD ["pot", "items"] ds) m := by
  rintro ds m R ⟨q, n, v, xs, d, rfl, hd, hq, pb, hn, hne, hl, h⟩
  simp [T__law_choose, startD]
  have hpos : 0 < xs.length := List.length_pos_iff.mpr hne
  have hlen : lenOf m d = some xs.length := by rcases hd with rfl | rfl <;> simp
  have hix : ∀ (m2 : Mu) (r : Int), 0 ≤ r → r < xs.length → ∃ x ∈ xs, ixD m2 d r = some x := fun m2 r h0 h1 => by
    refine ⟨xs[r.toNat]'(by omega), List.getElem_mem _, ?_⟩
    have e : atI xs r = some (xs[r.toNat]'(by omega)) := by
      unfold atI ixN
      rw [if_pos h0, if_pos h1]
      simp
    rcases hd with rfl | rfl
    · exact e
    · exact e
  refine ⟨xs.length, hlen, q, n, v, xs.length, rfl, hq, pb, hn, by omega, by omega, fun r v' h0 h1 pb' => ?_⟩
  obtain ⟨x, hx, e⟩ := hix (m.set q (potO v')) r h0 h1
  exact ⟨r, rfl, x, e, .same (h x hx v' pb')⟩
theorem app_get {α : Type} {m : List α} {q : Nat} {x : α} (h : m[q]? = some x) (tl : List α) : (m ++ tl)[q]? = some x := by
  rw [List.getElem?_append_left (List.getElem?_eq_some_iff.mp h).1]; exact h
theorem app_set {α : Type} {m : List α} {q : Nat} (h : q < m.length) (x : α) (tl : List α) : (m ++ tl).set q x = m.set q x ++ tl := List.set_append_left _ _ h
theorem Fin.dropS {m tl : Mu} {q : Nat} {X : MO} {R : D → Mu → Prop} {d d' : D} (hq : q < m.length) (hX : clMO m.length X = true) (fz : Fz m.length tl d d') (r : R d' (m.set q X)) : Fin m R d (m.set q X ++ tl) := by
  refine .inr ⟨m.length, d', Nat.le_refl _, by simp, ?_, fun i mo hi e => ?_, ?_⟩
  · have : (m.set q X ++ tl).drop m.length = tl := by
      have := List.drop_left (l₁ := m.set q X) (l₂ := tl)
      rwa [List.length_set] at this
    rw [this]; exact fz
  · rw [List.getElem?_append_left (by simpa using hi)] at e
    by_cases h : i = q
    · subst h
      rw [List.getElem?_set_self hq] at e
      cases e
      exact .inr hX
    · rw [List.getElem?_set_ne (Ne.symm h)] at e
      exact .inl e
  · have : (m.set q X ++ tl).take m.length = m.set q X := by
      have := List.take_left (l₁ := m.set q X) (l₂ := tl)
      rwa [List.length_set] at this
    rw [this]; exact r
theorem erase_perm {α : Type} : ∀ {l : List α} {i : Nat} (h : i < l.length), (l[i] :: l.eraseIdx i).Perm l
  | x :: l, 0, _ => .refl _
  | x :: l, i + 1, h => by
    have := erase_perm (l := l) (i := i) (by simpa using h)
    simp only [List.getElem_cons_succ, List.eraseIdx_cons_succ]
    exact (List.Perm.swap _ _ _).trans (this.cons x)
theorem erase_map {α β : Type} (f : α → β) : ∀ (l : List α) (i : Nat), (l.map f).eraseIdx i = (l.eraseIdx i).map f
  | [], _ => rfl
  | x :: l, 0 => rfl
  | x :: l, i + 1 => by
    simp only [List.map_cons, List.eraseIdx_cons_succ, erase_map f l i]
theorem hp__law_shuffled (K : PySem.W.Frag) : ∀ ds m R, sp__law_shuffled K ds m R → T__law_shuffled K (sp__law_dip K) (endsD m R) (startD ["pot", "items", "left", "turn"] ds) m := by
  rintro ds m R ⟨q, n, v, xs, rfl, hq, pb, hn, hl, h⟩
  have hql : q < m.length := (List.getElem?_eq_some_iff.mp hq).1
  simp [T__law_shuffled, startD]
  refine ⟨by omega, ?_⟩
  unfold rngD
  refine lcL_O (c := fun k : Nat => D.int (0 + (k : Int))) (I := fun rest acc m' => ∃ (ys left : List Int) (v' : Pv), acc = ys.map .int ∧ left.length = rest.length ∧ ys.length + rest.length = xs.length ∧ (ys ++ left).Perm xs ∧ PB (n + ys.length) v' ∧ m' = m.set q (potO v') ++ [.lst (left.map .int)]) (fun rest acc m' ⟨ys, left, v', h1, h2, h3, h4, h5, h6⟩ => ⟨trivial, by rw [h1, List.length_map]; unfold sizeLine; omega⟩) (fun acc m' ⟨ys, left, v', h1, h2, h3, h4, h5, h6⟩ => ?_) (fun x rest acc m' ⟨ys, left, v', h1, h2, h3, h4, h5, h6⟩ N hN => ?_) _ _ _ ⟨[], xs, v, rfl, by simp, by simp, by simp, pb, ?_⟩
  · have : m.set q (potO v) = m := by
      obtain ⟨hl, e⟩ := List.getElem?_eq_some_iff.mp hq
      rw [← e]; simp
    rw [this]
  · simp only [List.length_nil] at h2 h3
    obtain rfl : left = [] := List.length_eq_zero_iff.mp h2
    rw [List.append_nil] at h4
    subst h1 h6
    rw [show ys.length = xs.length by omega] at h5
    exact Fin.dropS hql (by rfl) (.cl (cl_map _ (fun _ => rfl) ys)) (h ys h4 v' h5)
  · subst h1 h6
    simp only [List.length_cons] at h2 h3
    have hlm : (m.set q (potO v') ++ [MO.lst (left.map D.int)])[m.length]? = some (.lst (left.map D.int)) := by
      rw [List.getElem?_append_right (by simp)]; simp
    have hqm : (m.set q (potO v') ++ [MO.lst (left.map D.int)])[q]? = some (potO v') := app_get (by simp [hql]) _
    simp [dwipe]
    have hN2 : ∀ v2 : Pv, (m.set q (potO v') ++ [MO.lst (left.map D.int)]).set q (potO v2) = m.set q (potO v2) ++ [MO.lst (left.map D.int)] := fun v2 => by
      rw [app_set (by simpa using hql), List.set_set]
    refine ⟨⟨rfl, left.map .int, by simp only [lsqOf, lstOf, hlm]⟩, left.length, by simp [lenOf, seqOf, tupOf, lstOf, hlm], q, n + ys.length, v', left.length, rfl, hqm, h5, by omega, by omega, by omega, fun r v2 r0 r1 pb2 => ?_⟩
    rw [hN2]
    have hlt : r.toNat < left.length := by omega
    have hix : seqIndex? r (left.map D.int).length = some r.toNat := by
      refine (ixN_seq ?_).1
      unfold ixN
      rw [List.length_map, if_pos r0, if_pos r1]
    refine ⟨left.map .int, r, rfl, ?_, by omega, by omega, r.toNat, hix, .int left[r.toNat], by simp [hlt], ?_⟩
    · rw [List.getElem?_append_right (by simp)]; simp
    · refine hN _ _ ⟨ys ++ [left[r.toNat]], left.eraseIdx r.toNat, v2, by simp, ?_, by simp; omega, ?_, ?_, ?_⟩
      · rw [List.length_eraseIdx_of_lt hlt]; omega
      · refine List.Perm.trans ?_ h4
        rw [List.append_assoc]
        exact (erase_perm hlt).append_left ys
      · rw [List.length_append, List.length_singleton]; exact pb2
      · rw [List.set_append_right (h := by simp)]
        simp [erase_map]
theorem cmulT {i j : Int} (hi : i.natAbs < 2 ^ 300) (hj : j.natAbs < 2 ^ 300) : CMulW i j := by
  have h1 := log2_lt hi (by decide)
  have h2 := log2_lt hj (by decide)
  unfold CMulW
  omega
theorem hp__law_old_names (K : PySem.W.Frag) : ∀ ds m R, sp__law_old_names K ds m R → T__law_old_names K (sp__law_choose K) (sp__law_dip K) (endsD m R) (startD ["pot", "size", "wide", "turn"] ds) m := by
  rintro ds m R ⟨q, n, v, k, rfl, hq, pb, hn, hk1, hk2, h⟩
  have hql : q < m.length := (List.getElem?_eq_some_iff.mp hq).1
  simp [T__law_old_names, startD]
  refine ⟨⟨by decide, by decide +kernel⟩, ⟨by decide, by decide +kernel⟩, by decide, q, n, v, _, _, rfl, .inl rfl, hq, pb, by omega, by simp, by decide, fun x hx v1 pb1 => ?_⟩
  obtain ⟨w, rfl, w0, w1⟩ : ∃ w : Int, x = .int w ∧ 1 ≤ w ∧ w ≤ 10000000000000000000000000000000000000000000000000000000000 := by
    simp at hx
    rcases hx with rfl | rfl | rfl | rfl | rfl <;> exact ⟨_, rfl, by omega, by omega⟩
  refine ⟨by omega, ?_⟩
  unfold rngD
  have hbig : (10000000000000000000000000000000000000000000000000000000000 : Int) < 10 ^ 60 := by decide +kernel
  refine lcL_O (c := fun k : Nat => D.int (0 + (k : Int))) (I := fun rest acc m' => ∃ (ns : List Int) (v' : Pv), acc = ns.map .int ∧ rest = (List.range k).drop ns.length ∧ ns.length ≤ k ∧ ns.Pairwise (· < ·) ∧ (∀ y ∈ ns, 0 ≤ y ∧ y < (ns.length : Int) * w) ∧ PB (n + 1 + ns.length) v' ∧ m' = m.set q (potO v')) (fun rest acc m' ⟨ns, v', h1, h2, h3, h4, h5, h6, h7⟩ => ⟨trivial, by rw [h1, h2, List.length_map, List.length_drop, List.length_range]; unfold sizeLine; omega⟩) (fun acc m' ⟨ns, v', h1, h2, h3, h4, h5, h6, h7⟩ => ?_) (fun x rest acc m' ⟨ns, v', h1, h2, h3, h4, h5, h6, h7⟩ N hN => ?_) _ _ _ ⟨[], v1, rfl, rfl, Nat.zero_le _, .nil, by simp, pb1, rfl⟩
  · have h2' := congrArg List.length h2
    rw [List.length_drop, List.length_range, List.length_nil] at h2'
    have hk : ns.length = k := by omega
    subst h1 h7
    refine .same (h ns ⟨h4, fun y hy => ⟨(h5 y hy).1, ?_⟩, by omega, by omega⟩ v' (h6.mono (by omega)))
    have := (h5 y hy).2
    have : (ns.length : Int) * w ≤ 5 * w := Int.mul_le_mul_of_nonneg_right (by omega) (by omega)
    unfold big
    omega
  · have h2' := congrArg List.length h2
    rw [List.length_drop, List.length_range, List.length_cons] at h2'
    have hx : x = ns.length := by
      have := congrArg List.head? h2
      rw [List.head?_drop, List.getElem?_range (by omega)] at this
      simpa using this
    have hr : rest = (List.range k).drop (ns.length + 1) := by
      have := congrArg List.tail h2
      rw [List.tail_drop] at this
      exact this
    subst h1 h7 hx
    simp [dwipe]
    refine ⟨q, n + 1 + ns.length, v', w, rfl, by simp [hql], h6, by omega, by omega, by omega, fun r v2 r0 r1 pb2 => ?_⟩
    refine ⟨cmulT (by omega) (by omega), ?_⟩
    refine hN _ _ ⟨ns ++ [r + (ns.length : Int) * w], v2, by simp, by simpa using hr, by simp; omega, ?_, ?_, ?_, by simp⟩
    · rw [List.pairwise_append]
      refine ⟨h4, by simp, fun a ha b hb => ?_⟩
      rw [List.mem_singleton.mp hb]
      have := (h5 a ha).2
      omega
    · intro y hy
      have e : ((ns ++ [r + (ns.length : Int) * w]).length : Int) * w = (ns.length : Int) * w + w := by
        rw [List.length_append, List.length_singleton, Int.natCast_add, Int.add_mul]
        simp
      rw [e]
      have hp : 0 ≤ (ns.length : Int) * w := Int.mul_nonneg (by omega) (by omega)
      rcases List.mem_append.mp hy with hy | hy
      · have := h5 y hy; omega
      · rw [List.mem_singleton.mp hy]; omega
    · rw [List.length_append, List.length_singleton]
      exact pb2
def refsB (L k : Nat) : List D := (List.range k).map fun i => .ref (L + 1 + i)
def lstB (b : List Int) : MO := .lst (b.map .int)
theorem refsB_succ (L k : Nat) : refsB L (k + 1) = refsB L k ++ [.ref (L + 1 + k)] := by
  unfold refsB
  rw [List.range_succ, List.map_append]; rfl
theorem refsB_len (L k : Nat) : (refsB L k).length = k := by simp [refsB]
section
variable {m0 : Mu} {L k : Nat} {bs : Bs}
theorem stB_get0 (hL : m0.length = L) : (m0 ++ .lst (refsB L k) :: bs.map lstB)[L]? = some (.lst (refsB L k)) := by
  subst hL; exact app_get0 _ _ _
theorem stB_get (hL : m0.length = L) {b : List Int} {i : Nat} (hb : bs[i]? = some b) : (m0 ++ .lst (refsB L k) :: bs.map lstB)[L + 1 + i]? = some (lstB b) := by
  subst hL
  rw [List.getElem?_append_right (by omega), show m0.length + 1 + i - m0.length = i + 1 by omega, List.getElem?_cons_succ, List.getElem?_map, hb]
  rfl
theorem stB_app (hL : m0.length = L) {b c : List Int} : (m0 ++ .lst (refsB L k) :: (bs ++ [b]).map lstB).set (L + 1 + bs.length) (lstB c) = m0 ++ .lst (refsB L k) :: (bs ++ [c]).map lstB := by
  subst hL
  rw [List.set_append_right (h := by omega), show m0.length + 1 + bs.length - m0.length = bs.length + 1 by omega, List.set_cons_succ, List.map_append, List.map_append, List.set_append_right (h := by simp)]
  simp
end
theorem srt_len (b : List Int) : (srt b).length = b.length := (srt_perm b).length_eq
theorem flat_srt : ∀ bs : Bs, ((bs.map srt).flatten).Perm bs.flatten
  | [] => .refl _
  | b :: bs => by
    rw [List.map_cons, List.flatten_cons, List.flatten_cons]
    exact (srt_perm b).append (flat_srt bs)
theorem flat_mem_nodup : ∀ {bs : Bs} {b : List Int}, bs.flatten.Nodup → b ∈ bs → b.Nodup
  | c :: bs, b, h, hb => by
    rw [List.flatten_cons, List.nodup_append] at h
    rcases List.mem_cons.mp hb with rfl | hb
    · exact h.1
    · exact flat_mem_nodup h.2.1 hb
theorem flat_len_le : ∀ {bs : Bs} {b : List Int}, b ∈ bs → b.length ≤ bs.flatten.length
  | c :: bs, b, hb => by
    rw [List.flatten_cons, List.length_append]
    rcases List.mem_cons.mp hb with rfl | hb
    · omega
    · have := flat_len_le hb; omega
theorem len_le_flat : ∀ {bs : Bs}, (∀ b ∈ bs, b ≠ []) → bs.length ≤ bs.flatten.length
  | [], _ => by simp
  | c :: bs, h => by
    rw [List.flatten_cons, List.length_append, List.length_cons]
    have := len_le_flat fun b hb => h b (List.mem_cons_of_mem _ hb)
    have := List.length_pos_iff.mpr (h c List.mem_cons_self)
    omega
theorem refsB_get (L k : Nat) : (refsB L (k + 1))[k]? = some (.ref (L + 1 + k)) := by
  rw [refsB_succ, List.getElem?_append_right (by rw [refsB_len]; omega), refsB_len]
  simp
/-- blocks that are put together thread by thread -/
theorem blocks_ok {ts : List Int} {bs : Bs} (ok : OkTh ts) (hp : bs.flatten.Perm ts) (hne : ∀ b ∈ bs, b ≠ []) : OkBs (bs.map srt) ∧ rTh (bs.map srt) = ts := by
  have nd : bs.flatten.Nodup := hp.nodup_iff.mpr (asc_nodup ok.1)
  have hl := hp.length_eq
  have p2 := (flat_srt bs).trans hp
  have hl2 := p2.length_eq
  refine ⟨⟨fun b' hb' => ?_, by rw [hl2]; exact ok.2.2.1, by rw [hl2]; exact ok.2.2.2, p2.nodup_iff.mpr (asc_nodup ok.1)⟩, ?_⟩
  · obtain ⟨b, hb, rfl⟩ := List.mem_map.mp hb'
    refine ⟨srt_asc (flat_mem_nodup nd hb), fun n hn => ok.2.1 n (hp.mem_iff.mp (List.mem_flatten.mpr ⟨b, hb, mem_srt.mp hn⟩)), ?_, ?_⟩
    · rw [srt_len]; exact List.length_pos_iff.mpr (hne b hb)
    · rw [srt_len]; have := flat_len_le hb; have := ok.2.2.2; omega
  · exact asc_eq (srt_asc (p2.nodup_iff.mpr (asc_nodup ok.1))) ok.1 fun k => by rw [rTh_mem]; exact p2.mem_iff
theorem hp__law_blocks (K : PySem.W.Frag) : ∀ ds m R, sp__law_blocks K ds m R → T__law_blocks K (sp__law_shuffled K) (sp__law_choose K) (sp__law_dip K) (endsD m R) (startD ["pot", "threads", "left", "found", "wide", "thread", "block"] ds) m := by
  rintro ds m R ⟨q, n, v, ts, rfl, hq, pb, hn, ok, h⟩
  have hql : q < m.length := (List.getElem?_eq_some_iff.mp hq).1
  simp [T__law_blocks, startD]
  have hm : m.set q (potO v) = m := by
    obtain ⟨hl, e⟩ := List.getElem?_eq_some_iff.mp hq
    rw [← e]; simp
  have htl := ok.2.2.2
  refine ⟨q, n, v, ts, rfl, hq, pb, by omega, by omega, fun ys hys v1 pb1 => ?_⟩
  have hyl := hys.length_eq
  refine ⟨by decide, q, n + ts.length, v1, _, _, rfl, .inl rfl, app_get (by simp [hql]) _, pb1, by omega, by simp, by decide, fun x hx v2 pb2 => ?_⟩
  obtain ⟨w, rfl, w0, w1⟩ : ∃ w : Int, x = .int w ∧ 1 ≤ w ∧ w ≤ 3 := by
    simp at hx
    rcases hx with rfl | rfl | rfl <;> exact ⟨_, rfl, by omega, by omega⟩
  rw [app_set (by simpa using hql), List.set_set]
  simp only [List.length_set]
  have ndt := asc_nodup ok.1
  have ndy : ys.Nodup := hys.nodup_iff.mpr ndt
  refine forL_O (α := Int) (c := D.int) (I := fun done rest δ m' => (∃ y z, δ = [some (.ref q), some (tI ts), some (.lst (ys.map .int)), some (.ref m.length), some (.int w), y, z]) ∧ done ++ rest = ys ∧
    ∃ (bs : Bs) (v' : Pv), bs.flatten = done ∧ (∀ b ∈ bs, b ≠ []) ∧ PB (n + ts.length + 1 + done.length) v' ∧ m' = m.set q (potO v') ++ .lst (refsB m.length bs.length) :: bs.map lstB) (fun _ _ _ _ _ => trivial) (fun ds δ m' ⟨⟨y, z, h1⟩, h2, bs, v', h3, h4, h5, h6⟩ => ?_) (fun ds x xs δ m' ⟨⟨y, z, h1⟩, h2, bs, v', h3, h4, h5, h6⟩ N hN => ?_) [] _ _ _ ⟨⟨_, _, rfl⟩, rfl, [], v2, rfl, by simp, pb2, rfl⟩
  · subst h1 h6
    have hL : (m.set q (potO v')).length = m.length := by simp
    rw [List.append_nil] at h2
    rw [h2] at h3 h5
    rw [← h3] at hys
    obtain ⟨o1, o2⟩ := blocks_ok ok hys h4
    have hbl : bs.length ≤ 5 := by have := o1.len; simpa using this
    simp [stB_get0 hL]
    refine lcL_O (c := fun i : Nat => D.ref (m.length + 1 + i)) (I := fun rest acc m' => ∃ k, rest = (List.range bs.length).drop k ∧ k ≤ bs.length ∧ acc = (bs.take k).map (fun b => tI (srt b)) ∧ m' = m.set q (potO v') ++ .lst (refsB m.length bs.length) :: bs.map lstB) (fun rest acc m' ⟨k, e1, e2, e3, e4⟩ => ⟨by rw [e4]; exact stB_get0 hL, by rw [e1, e3]; simp; unfold sizeLine; omega⟩) (fun acc m' ⟨k, e1, e2, e3, e4⟩ => ?_) (fun x rest acc m' ⟨k, e1, e2, e3, e4⟩ N hN => ?_) _ _ _ ⟨0, rfl, Nat.zero_le _, rfl, rfl⟩
    · have e1' := congrArg List.length e1
      rw [List.length_drop, List.length_range, List.length_nil] at e1'
      have hk : k = bs.length := by omega
      subst e3 e4 hk
      rw [List.take_of_length_le (Nat.le_refl _)]
      have e : (bs.map fun b => tI (srt b)) = (bs.map srt).map tI := by simp
      rw [e]
      exact Fin.dropS hql (by rfl) (.cl (cl_tB _ (bs.map srt))) (h _ o1 o2 v' (h5.mono (by omega)))
    · have e1' := congrArg List.length e1
      rw [List.length_drop, List.length_range, List.length_cons] at e1'
      have hx : x = k := by
        have := congrArg List.head? e1
        rw [List.head?_drop, List.getElem?_range (by omega)] at this
        simpa using this
      have hr : rest = (List.range bs.length).drop (k + 1) := by
        have := congrArg List.tail e1
        rw [List.tail_drop] at this
        exact this
      subst hx e3 e4
      have hxl : x < bs.length := by omega
      have hb : bs[x]? = some bs[x] := List.getElem?_eq_getElem hxl
      simp [dwipe]
      refine ⟨bs[x], by simp only [lsqOf, lstOf, stB_get hL hb]; rfl, hN _ _ ⟨x + 1, hr, hxl, ?_, rfl⟩⟩
      have e5 : bs.take (x + 1) = bs.take x ++ [bs[x]] := by rw [List.take_add_one, hb]; rfl
      rw [e5, List.map_append]
      rfl
  · subst h1 h6
    have hL : (m.set q (potO v')).length = m.length := by simp
    have hdl : ds.length + xs.length + 1 = ts.length := by rw [← hyl, ← h2]; simp; omega
    have hset : ∀ (v3 : Pv) (X : Mu), (m.set q (potO v') ++ X).set q (potO v3) = m.set q (potO v3) ++ X := fun v3 X => by
      rw [app_set (by simpa using hql), List.set_set]
    have hN0 : ∀ (v3 : Pv) (z : Option D), PB (n + ts.length + 1 + ds.length + 1) v3 → N [some (.ref q), some (tI ts), some (.lst (ys.map .int)), some (.ref m.length), some (.int w), some (.int x), z] (m.set q (potO v3) ++ .lst (refsB m.length (bs.length + 1)) :: (bs ++ [[x]]).map lstB) := fun v3 z p3 => by
      refine hN _ _ ⟨⟨_, _, rfl⟩, by simpa using h2, bs ++ [[x]], v3, by simp [h3], fun b hb => ?_, by rw [List.length_append, List.length_singleton]; exact p3, by rw [List.length_append, List.length_singleton]⟩
      rcases List.mem_append.mp hb with hb | hb
      · exact h4 b hb
      · rw [List.mem_singleton.mp hb]; simp
    have hbl : bs.length ≤ 5 := by
      have := len_le_flat h4
      rw [h3] at this
      omega
    simp [stB_get0 hL]
    refine ⟨refsB m.length bs.length, by simp only [lsqOf, lstOf, stB_get0 hL], rfl, ?_⟩
    rcases List.eq_nil_or_concat bs with hb0 | ⟨bs', b, hbb⟩
    · subst hb0
      refine .inr ⟨rfl, ⟨rfl, _, by simp only [lsqOf, lstOf]; rw [stB_get0 hL]⟩, by decide, by rw [refsB_len]; decide, ?_⟩
      have := hN0 v' z (h5.mono (by omega))
      rw [refsB_succ] at this
      simpa [lstB] using this
    · rw [List.concat_eq_append] at hbb
      refine .inl ⟨fun e => ?_, q, n + ts.length + 1 + ds.length, v', w, rfl, app_get (by simp [hql]) _, h5, by omega, by omega, by omega, fun r v3 r0 r1 pb3 => ?_⟩
      · have := congrArg List.length e
        rw [refsB_len, hbb] at this
        simp at this
      · rw [hset]
        have hL3 : (m.set q (potO v3)).length = m.length := by simp
        simp
        by_cases hr0 : r = 0
        · refine .inr ⟨hr0, ⟨rfl, _, by simp only [lsqOf, lstOf]; rw [stB_get0 hL3]⟩, by decide, by rw [refsB_len]; unfold sizeLine; omega, ?_⟩
          have := hN0 v3 z pb3
          rw [refsB_succ, show m.length + 1 + bs.length = m.length + (bs.length + 1) by omega] at this
          simpa [lstB] using this
        · have hblen : b.length ≤ 5 := by
            have := flat_len_le (bs := bs) (b := b) (by rw [hbb]; simp)
            rw [h3] at this
            omega
          refine .inl ⟨hr0, .ref (m.length + 1 + bs'.length), ?_, ⟨rfl, _, by simp only [lsqOf, lstOf]; rw [hbb, stB_get hL3 (b := b) (by simp)]; rfl⟩, _, rfl, b.map .int, ?_, ?_, ?_⟩
          · rw [ix_lst (stB_get0 hL3), hbb]
            simp only [atI, ixN, refsB_len, List.length_append, List.length_singleton]
            rw [if_neg (by decide), if_pos (by omega), show ((-1 : Int) + ((bs'.length + 1 : Nat) : Int)).toNat = bs'.length by omega]
            exact refsB_get _ _
          · rw [hbb]
            exact stB_get hL3 (by simp)
          · rw [List.length_map]; unfold sizeLine; omega
          · have e : (b.map D.int ++ [D.int x]) = (b ++ [x]).map D.int := by simp
            rw [e, hbb]
            have e2 := stB_app (m0 := m.set q (potO v3)) (L := m.length) (k := (bs' ++ [b]).length) (bs := bs') hL3 (b := b) (c := b ++ [x])
            rw [show MO.lst ((b ++ [x]).map D.int) = lstB (b ++ [x]) from rfl, e2]
            refine hN _ _ ⟨⟨_, _, rfl⟩, by simpa using h2, bs' ++ [b ++ [x]], v3, by rw [← h3, hbb]; simp, fun c hc => ?_, by rw [List.length_append, List.length_singleton]; exact pb3, by simp [lstB]⟩
            rcases List.mem_append.mp hc with hc | hc
            · exact h4 c (by rw [hbb]; exact List.mem_append_left _ hc)
            · rw [List.mem_singleton.mp hc]; simp
end FN
set_option Elab.async false
set_option linter.all false
set_option maxRecDepth 100000
set_option maxHeartbeats 4000000
/-! P7: where a table stands, as a text -/
namespace FN
open PySem PySem.Spec PyProof.Rows L2 SlX DL
open TL (tl)
def stL (ts : List Int) (st : St) : List D := [tI st.run, .lst (itD (namesP ts st.nm)), .lst (itD (placesP ts st.ss)), .str (uTx ts st.rs)] ++ [.str (tabTx ts st), .int st.rs.length, .bl (waitS st)]
def sTx (ts : List Int) (st : St) : Str := (toP (.lst (stL ts st))).shown
def sp__law_standing (K : PySem.W.Frag) : DRs := rdT K Wf fun ts st => .str (sTx ts st)
/-- data that can be shown, in so many signs -/
structure Shw (k n : Nat) (d : D) : Prop where
  c : (toP d).canLay0 = true
  s : (toP d).showable = true
  dp : (toP d).depth ≤ k
  ln : (toP d).shown.length ≤ n
theorem Shw.mono {k n k' n' : Nat} {d : D} (h : Shw k n d) (h1 : k ≤ k') (h2 : n ≤ n') : Shw k' n' d := ⟨h.c, h.s, Nat.le_trans h.dp h1, Nat.le_trans h.ln h2⟩
theorem Shw.non : Shw 0 4 .non := ⟨rfl, rfl, Nat.le_refl _, by decide +kernel⟩
theorem Shw.bl (b : Bool) : Shw 0 5 (.bl b) := ⟨rfl, rfl, Nat.le_refl _, by cases b <;> decide +kernel⟩
theorem small_len : ∀ j < 401, (Str.ofString (toString ((j : Nat) - 200 : Int))).length ≤ 62 := by decide +kernel
theorem Shw.int {i : Int} (h : Nn i ∨ (-200 ≤ i ∧ i ≤ 200)) : Shw 0 62 (.int i) := by
  refine ⟨rfl, ?_, Nat.le_refl _, ?_⟩
  · show decide (i.natAbs.log2 < 1920) = true
    refine decide_eq_true ?_
    rcases h with h | h
    · exact log2_big h
    · exact log2_lt (k := 1920) (Nat.lt_of_le_of_lt (show i.natAbs ≤ 200 by omega) (by decide +kernel)) (by decide)
  · show (Str.ofString (toString i)).length ≤ 62
    rcases h with h | h
    · have := nTx_len h
      exact Nat.le_trans this (by decide)
    · have := small_len (i + 200).toNat (by omega)
      rwa [show (((i + 200).toNat : Nat) : Int) - 200 = i by omega] at this
def Asc (x : Str) : Prop := ∀ c ∈ tl x, c < 128
theorem Asc.app {x y : Str} (h1 : Asc x) (h2 : Asc y) : Asc (x ++ y) := by
  intro c hc
  rw [TL.tl_append] at hc
  rcases List.mem_append.mp hc with h | h
  · exact h1 c h
  · exact h2 c h
theorem Asc.nTx {n : Int} (h : 0 ≤ n) : Asc (nTx n) := fun c hc => by
  rw [nTx_tl h] at hc
  have := TL.numL_digits n.toNat c hc
  omega
theorem Asc.join {s : Str} (hs : Asc s) {xs : List Str} (h : ∀ x ∈ xs, Asc x) : Asc (Txt.join s xs) := fun c hc => by
  rw [TL.join_eq, TL.tl_join] at hc
  rcases mem_joinL hc with h1 | ⟨p, hp, h1⟩
  · exact hs c h1
  · obtain ⟨x, hx, rfl⟩ := List.mem_map.mp hp
    exact h x hx c h1
theorem Asc.ok {x : Str} (h : Asc x) : PyData.canLay0 (.str x) = true := by
  show PyData.strOk x = true
  unfold PyData.strOk
  rw [Array.all_eq_true_iff_forall_mem]
  intro c hc
  have := h c (Array.mem_toList_iff.mpr hc)
  exact decide_eq_true (by omega)
theorem Shw.str {x : Str} {n : Nat} (h : Asc x) (hl : x.length ≤ n) : Shw 0 (10 * n + 2) (.str x) := by
  refine ⟨h.ok, rfl, Nat.le_refl _, ?_⟩
  show (reprText x).length ≤ _
  have := StrLaws.reprText_len x fun c hc => Nat.lt_of_lt_of_le (h c hc) (by decide)
  omega
theorem shw_all {k n : Nat} : ∀ {xs : List D}, (∀ x ∈ xs, Shw k n x) → PyData.canLayAll0 (toPs xs) = true ∧ PyData.showableAll (toPs xs) = true ∧ PyData.depthAll (toPs xs) ≤ k ∧ ((PyData.shownAll (toPs xs)).map (·.length)).sum ≤ xs.length * n ∧ (PyData.shownAll (toPs xs)).length = xs.length
  | [], _ => ⟨rfl, rfl, Nat.zero_le _, by simp [toPs, PyData.shownAll], rfl⟩
  | x :: xs, h => by
    obtain ⟨h1, h2, h3, h4, h5⟩ := shw_all fun y hy => h y (List.mem_cons_of_mem _ hy)
    have hx := h x List.mem_cons_self
    refine ⟨?_, ?_, ?_, ?_, ?_⟩
    · rw [toPs, PyData.canLayAll0, hx.c, h1]; rfl
    · rw [toPs, PyData.showableAll, hx.s, h2]; rfl
    · have := hx.dp; rw [toPs, PyData.depthAll]; omega
    · have := hx.ln; rw [toPs, PyData.shownAll, List.map_cons, List.sum_cons, List.length_cons, Nat.succ_mul]; omega
    · rw [toPs, PyData.shownAll, List.length_cons, h5, List.length_cons]
theorem Shw.tup {k n : Nat} {xs : List D} (h : ∀ x ∈ xs, Shw k n x) : Shw (k + 1) (xs.length * (n + 2) + 3) (.tup xs) := by
  obtain ⟨h1, h2, h3, h4, h5⟩ := shw_all h
  refine ⟨by simpa [toP, PyData.canLay0] using h1, by simpa [toP, PyData.showable] using h2, by simpa [toP, PyData.depth] using h3, ?_⟩
  have := tupleText_len_le (PyData.shownAll (toPs xs))
  rw [h5] at this
  have e : (toP (.tup xs)).shown = tupleText (PyData.shownAll (toPs xs)) := by simp [toP, PyData.shown]
  rw [e, Nat.mul_add]
  omega
theorem Shw.lst {k n : Nat} {xs : List D} (h : ∀ x ∈ xs, Shw k n x) : Shw (k + 1) (xs.length * (n + 2) + 3) (.lst xs) := by
  obtain ⟨h1, h2, h3, h4, h5⟩ := shw_all h
  refine ⟨by simpa [toP, PyData.canLay0] using h1, by simpa [toP, PyData.showable] using h2, by simpa [toP, PyData.depth] using h3, ?_⟩
  have := listText_len_le (PyData.shownAll (toPs xs))
  rw [h5] at this
  have e : (toP (.lst xs)).shown = listText (PyData.shownAll (toPs xs)) := by simp [toP, PyData.shown]
  rw [e, Nat.mul_add]
  omega
theorem Asc.lit {x : Str} (h : x.cps.toList.all (· < 128) = true) : Asc x := fun c hc => of_decide_eq_true (List.all_eq_true.mp h c hc)
theorem Asc.tSp {ns : List Int} (h : ∀ n ∈ ns, 0 ≤ n) : Asc (tSp ns) := Asc.join (Asc.lit (by decide +kernel)) fun x hx => by
  obtain ⟨n, hn, rfl⟩ := List.mem_map.mp hx
  exact Asc.nTx (h n hn)
theorem Asc.rTx {bs : Bs} (h : ∀ b ∈ bs, ∀ n ∈ b, 0 ≤ n) : Asc (rTx bs) := Asc.join (Asc.lit (by decide +kernel)) fun x hx => by
  obtain ⟨n, hn, rfl⟩ := List.mem_map.mp hx
  exact Asc.tSp (h n hn)
theorem Asc.uTx {ts : List Int} {rs : List Bs} (h1 : OkTh ts) (h : OkRs ts rs) : Asc (uTx ts rs) := by
  unfold FN.uTx
  split
  · exact (Asc.lit (by decide +kernel)).app (Asc.tSp fun n hn => (h1.2.1 n hn).1)
  · exact Asc.join (Asc.lit (by decide +kernel)) fun x hx => by
      obtain ⟨r, hr, rfl⟩ := List.mem_map.mp hx
      exact Asc.rTx fun b hb n hn => (((h.2 r hr).1.1 b hb).2.1 n hn).1
theorem Asc.tabTx (ts : List Int) (st : St) : Asc (tabTx ts st) := by
  unfold FN.tabTx
  exact ((((((Asc.lit (x := Str.empty ++ "table of ") (by decide +kernel)).app (Asc.nTx (by omega))).app (Asc.lit (by decide +kernel))).app (Asc.nTx (by omega))).app (Asc.lit (by decide +kernel))).app (Asc.nTx (by omega))).app (Asc.lit (by decide +kernel))
theorem nlen {k : Nat} (hk : k ≤ 1000) : (Str.ofString (toString ((k : Nat) : Int))).length ≤ 10 := by
  rw [TL.len_tl]
  show (tl (Str.ofString (toString ((k : Nat) : Int)))).length ≤ 10
  rw [TL.tl_num]
  exact TL.numL_len (by decide) (by omega)
theorem tabTx_len {ts : List Int} {st : St} (h1 : ts.length ≤ 1000) (h2 : st.rs.length ≤ 1000) (h3 : st.nm.length ≤ 1000) : (tabTx ts st).length ≤ 100 := by
  have a1 := nlen h1
  have a2 := nlen h2
  have a3 := nlen h3
  have b1 : ("table of " : Str).length = 9 := by decide +kernel
  have b2 : (" threads: " : Str).length = 10 := by decide +kernel
  have b3 : (" rounds, " : Str).length = 9 := by decide +kernel
  have b4 : (" named" : Str).length = 6 := by decide +kernel
  have b5 : (Str.empty : Str).length = 0 := by decide +kernel
  unfold tabTx
  simp only [Str.length_append, b1, b2, b3, b4, b5]
  omega
theorem shw_opt {st : St} {ts : List Int} (wf : Wf ts st) (t : Int) : Shw 0 62 (optI (lk st.nm t)) := by
  cases e : lk st.nm t with
  | none => exact Shw.non.mono (by omega) (by omega)
  | some v =>
    have := wf.no _ (lk_mem e)
    have := wf.rs.1
    refine Shw.int (.inr ?_)
    unfold NmOk at *
    omega
theorem shw_stL {ts : List Int} {st : St} (wf : Wf ts st) : Shw 4 800000 (.lst (stL ts st)) := by
  have hts := wf.ot.2.2.2
  have hrun : st.run.length ≤ 5 := Nat.le_trans wf.sub.length_le hts
  have nn : ∀ t ∈ ts, Nn t := wf.ot.2.1
  have a1 : Shw 3 110000 (tI st.run) := (Shw.tup (k := 0) (n := 62) fun x hx => by
    obtain ⟨t, ht, rfl⟩ := List.mem_map.mp hx
    exact Shw.int (.inl (nn t (wf.sub.mem ht)))).mono (by omega) (by rw [List.length_map]; omega)
  have a2 : Shw 3 110000 (.lst (itD (namesP ts st.nm))) := (Shw.lst (k := 1) (n := 131) fun x hx => by
    unfold itD namesP at hx
    rw [List.map_map] at hx
    obtain ⟨t, ht, rfl⟩ := List.mem_map.mp hx
    refine (Shw.tup (k := 0) (n := 62) fun y hy => ?_).mono (by omega) (by simp)
    simp only [Function.comp, kD, List.mem_cons, List.not_mem_nil, or_false] at hy
    rcases hy with rfl | rfl
    · exact Shw.int (.inl (nn t ht))
    · exact shw_opt wf t).mono (by omega) (by simp [itD, namesP]; omega)
  have a3 : Shw 3 110000 (.lst (itD (placesP ts st.ss))) := (Shw.lst (k := 2) (n := 500) fun x hx => by
    unfold itD placesP at hx
    obtain ⟨q, hq, rfl⟩ := List.mem_map.mp hx
    obtain ⟨t, ht, e⟩ := List.mem_filterMap.mp hq
    obtain ⟨s, hs, rfl⟩ := Option.map_eq_some_iff.mp e
    have hso := wf.so _ (lk_mem hs)
    have hr := wf.rs.1
    refine (Shw.tup (k := 1) (n := 131) fun y hy => ?_).mono (by omega) (by simp)
    simp only [kD, List.mem_cons, List.not_mem_nil, or_false] at hy
    rcases hy with rfl | rfl
    · exact (Shw.int (.inl (nn t ht))).mono (by omega) (by omega)
    · refine (Shw.tup (k := 0) (n := 62) fun z hz => ?_).mono (by omega) (by simp)
      simp only [List.mem_cons, List.not_mem_nil, or_false] at hz
      obtain ⟨h1, h2, h3, _⟩ := hso
      simp only at h1 h2 h3
      rcases hz with rfl | rfl
      · exact Shw.int (.inr (by omega))
      · exact Shw.int (.inr (by omega))).mono (by omega) (by
    have : (placesP ts st.ss).length ≤ ts.length := List.length_filterMap_le _ _
    simp only [itD, List.length_map]; omega)
  have hrs := wf.rs.1
  have hnm := wf.nl
  have a4 : Shw 3 110000 (.str (uTx ts st.rs)) := by
    have h1 := Shw.str (n := 10000) (Asc.uTx wf.ot wf.rs) (uTx_len wf.ot wf.rs)
    exact h1.mono (by omega) (by omega)
  have a5 : Shw 3 110000 (.str (tabTx ts st)) := (Shw.str (n := 100) (Asc.tabTx ts st) (tabTx_len (by omega) (by omega) (by omega))).mono (by omega) (by omega)
  have a6 : Shw 3 110000 (.int st.rs.length) := (Shw.int (.inr (by omega))).mono (by omega) (by omega)
  have a7 : Shw 3 110000 (.bl (waitS st)) := (Shw.bl _).mono (by omega) (by omega)
  refine (Shw.lst (k := 3) (n := 110000) fun x hx => ?_).mono (by omega) (by simp [stL])
  simp only [stL, List.cons_append, List.nil_append, List.mem_cons, List.not_mem_nil, or_false] at hx
  rcases hx with rfl | rfl | rfl | rfl | rfl | rfl | rfl <;> assumption
theorem hp__law_standing (K : PySem.W.Frag) : ∀ ds m R, sp__law_standing K ds m R → T__law_standing K (sp_Table_running K) (sp_Table_names K) (sp_Table_places K) (sp_write_run K) (sp_Table_run K) (sp_Table___str__ K) (sp_Table___len__ K) (sp_Table___bool__ K) (endsD m R) (startD ["table", "told"] ds) m := by
  rintro ds m R ⟨n, p, ts, st, past, rfl, T, wf, h⟩
  have hi : instD (ga K "Table") m (.ref n) := .inr ⟨_, T.ins⟩
  have hts := wf.ot.2.2.2
  have hrs := wf.rs.1
  have hnm := wf.nl
  have hrun : st.run.length ≤ 5 := Nat.le_trans wf.sub.length_le hts
  have sh := shw_stL wf
  simp [T__law_standing, startD]
  refine ⟨hi, n, p, ts, st, past, rfl, T, trivial, hi, n, p, ts, st, past, rfl, T, wf.ot, _, rfl, hi, n, p, ts, st, past, rfl, T, wf.ot, _, rfl, hi, n, p, ts, st, past, rfl, T, trivial, ts, st.rs, rfl, wf.ot, wf.rs, by decide, hi, n, p, ts, st, past, rfl, T, ⟨hts, hrs, by omega⟩, _, rfl, hi, n, p, ts, st, past, rfl, T, trivial, _, rfl, by omega, by omega, hi, n, p, ts, st, past, rfl, T, hrun, ?_⟩
  cases hw : waitS st with
  | false =>
    refine .inl ⟨congrArg D.bl hw, by decide, by decide, ?_⟩
    have e : stL ts st = [tI st.run, .lst (itD (namesP ts st.nm)), .lst (itD (placesP ts st.ss)), .str (uTx ts st.rs), .str (tabTx ts st), .int st.rs.length, .bl false] := by rw [← hw]; rfl
    rw [← e]
    exact ⟨sh.c, sh.s, Nat.le_trans sh.dp (by decide), Nat.le_trans sh.ln (by decide), .same h⟩
  | true =>
    refine .inr ⟨congrArg D.bl hw, by decide, by decide, ?_⟩
    have e : stL ts st = [tI st.run, .lst (itD (namesP ts st.nm)), .lst (itD (placesP ts st.ss)), .str (uTx ts st.rs), .str (tabTx ts st), .int st.rs.length, .bl true] := by rw [← hw]; rfl
    rw [← e]
    exact ⟨sh.c, sh.s, Nat.le_trans sh.dp (by decide), Nat.le_trans sh.ln (by decide), .same h⟩
end FN
set_option Elab.async false
set_option linter.all false
set_option maxRecDepth 100000
set_option maxHeartbeats 4000000
/-! P8: the law -/
namespace FN
open PySem PySem.Spec PyProof.Rows L2 SlX DL
open TL (tl)
def sp__law_replayed_right (K : PySem.W.Frag) : DRs := fun ds m R => ∃ (n p : Nat) (ts : List Int) (st : St) (past : List St), ds = [.ref n] ∧ Tab K n p ts st past m ∧ Wf ts st ∧ hasT (tbP K "place_of") m ∧ hasT (tbP K "require_pieces") m ∧ R (.bl true) m
theorem repS_wf {ts : List Int} {rs : List Bs} (h : OkTh ts) (hr : OkRs ts rs) : ∀ i, i ≤ rs.length → Wf ts (repS ts (rs.take i))
  | 0, _ => by rw [List.take_zero]; exact wf_init h
  | i + 1, hi => by
    have hb : rs[i]? = some rs[i] := List.getElem?_eq_getElem (by omega)
    have e : rs.take (i + 1) = rs.take i ++ [rs[i]] := by rw [List.take_add_one, hb]; rfl
    rw [e, repS_snoc]
    have hm := hr.2 rs[i] (List.getElem_mem _)
    have := (repS_rs ts (rs.take i))
    have hrl := hr.1
    refine wf_go (repS_wf h hr i (by omega)) hm.1 (by rw [hm.2, this.2]) ?_
    rw [this.1, List.length_take]
    omega
theorem vl_names {ts : List Int} {nm : Names} {t : Int} (h : t ∈ ts) : vlD (namesP ts nm) (.inl t) = some (optI (lk nm t)) := by
  unfold vlD namesP
  rw [List.find?_map]
  have : ((fun kv : Key × D => decide (kv.1 = Sum.inl t)) ∘ fun t : Int => ((Sum.inl t : Key), optI (lk nm t))) = fun u => decide (u = t) := by
    funext u
    simp
  rw [this]
  have : ts.find? (fun u => decide (u = t)) = some t := by
    cases e : ts.find? (fun u => decide (u = t)) with
    | none => rw [List.find?_eq_none] at e; exact absurd (e t h) (by simp)
    | some u => have := List.find?_some e; simp at this; rw [this]
  rw [this]; rfl
def seP (s : Se) : D := .tup [.int s.fi, .int s.di]
theorem vl_places {ss : Seats} {t : Int} : ∀ {ts : List Int}, t ∈ ts → vlD (placesP ts ss) (.inl t) = (lk ss t).map seP
  | u :: ts, h => by
    unfold placesP
    rw [List.filterMap_cons]
    by_cases hu : u = t
    · subst hu
      cases e : lk ss u with
      | some s => simp [vlD]; rfl
      | none =>
        simp only [Option.map_none]
        by_cases h2 : u ∈ ts
        · have := vl_places (ss := ss) h2
          rw [e] at this
          exact this
        · unfold vlD
          rw [Option.map_eq_none_iff, List.find?_eq_none]
          intro q hq
          obtain ⟨w, hw, e2⟩ := List.mem_filterMap.mp hq
          obtain ⟨s, hs, rfl⟩ := Option.map_eq_some_iff.mp e2
          simp
          rintro rfl
          exact h2 hw
    · have h2 : t ∈ ts := by
        rcases List.mem_cons.mp h with e | e
        · exact absurd e.symm hu
        · exact e
      have := vl_places (ss := ss) h2
      cases e : lk ss u with
      | some s =>
        simp only [Option.map_some]
        unfold vlD at this ⊢
        rw [List.find?_cons_of_neg (by simpa using hu)]
        exact this
      | none => simp only [Option.map_none]; exact this
theorem dat_opt (o : Option Int) (m : Mu) : datOf (optI o) m = optI o := by cases o <;> rfl
theorem sh_opt (o : Option Int) : shD (optI o) := by cases o <;> simp [optI]
theorem eq_opt (o : Option Int) : eqD (optI o) (optI o) = true := by
  cases o with
  | none => exact eqD_refl Dat.non
  | some i => exact eqD_refl (Dat.int i)
theorem dat_seP (o : Option Se) (m : Mu) : datOf ((o.map seP).getD .non) m = (o.map seP).getD .non := by cases o <;> rfl
theorem Dat_seP (o : Option Se) : Dat 1 ((o.map seP).getD .non) := by
  cases o with
  | none => exact Dat.non.mono (by omega)
  | some s =>
    refine Dat.tup (n := 0) fun x hx => ?_
    simp only [List.mem_cons, List.not_mem_nil, or_false] at hx
    rcases hx with rfl | rfl <;> exact Dat.int _
theorem Tab.app {K : PySem.W.Frag} {n p : Nat} {ts : List Int} {st : St} {past : List St} {m : Mu} (h : Tab K n p ts st past m) (X : Mu) : Tab K n p ts st past (m ++ X) := ⟨app_get h.ins X, app_get h.lst X⟩
theorem Tab.other {K : PySem.W.Frag} {n p n' p' : Nat} {ts ts' : List Int} {st st' : St} {past past' : List St} {m : Mu} (h : Tab K n p ts st past m) (h1 : n ≠ n') (h2 : n ≠ p') (h3 : p ≠ n') (h4 : p ≠ p') : Tab K n p ts st past (setTab K n' p' ts' st' past' m) :=
  ⟨by rw [setTab_get h1 h2]; exact h.ins, by rw [setTab_get h3 h4]; exact h.lst⟩
theorem tab_new {K : PySem.W.Frag} {ts : List Int} {m : Mu} : Tab K m.length (m.length + 1) ts (initS ts) [] (m ++ [.ins (ga K "Table") (tabF K ts (initS ts) (m.length + 1)), .lst []]) := ⟨app_get0 _ _ _, app_get1 _ _ _ _⟩
/-- what stands before the new objects is as it was -/
theorem pre_split {m m' : Mu} (hl : m.length ≤ m'.length) (h : ∀ i, i < m.length → m'[i]? = m[i]?) : ∃ tl, m' = m ++ tl := by
  refine ⟨m'.drop m.length, ?_⟩
  have : m'.take m.length = m := by
    apply List.ext_getElem?
    intro i
    by_cases hi : i < m.length
    · rw [List.getElem?_take_of_lt hi, h i hi]
    · rw [List.getElem?_eq_none (by rw [List.length_take]; omega), List.getElem?_eq_none (by omega)]
  have e := List.take_append_drop m.length m'
  rw [this] at e
  exact e.symm
theorem hp__law_replayed_right (K : PySem.W.Frag) : ∀ ds m R, sp__law_replayed_right K ds m R → T__law_replayed_right K (sp_read_run K) (sp_write_run K) (sp_Table_run K) (sp_Run___eq__ K) (mk_Table K) (sp_Table_threads K) (sp_Run___len__ K) (sp_Table_go K) (sp_Run___getitem__ K) (sp_Table___len__ K) (sp_Table_running K) (sp_Table_names K) (sp_Table_places K) (endsD m R) (startD ["table", "run", "other", "place", "thread"] ds) m := by
  rintro ds m R ⟨n, p, ts, st, past, rfl, T, wf, ht, hq, h⟩
  have hi : instD (ga K "Table") m (.ref n) := .inr ⟨_, T.ins⟩
  have hrs := wf.rs.1
  simp [T__law_replayed_right, startD]
  refine ⟨hi, n, p, ts, st, past, rfl, T, trivial, ts, st.rs, rfl, wf.ot, wf.rs, ts, st.rs, rfl, wf.ot, wf.rs, hq, ?_⟩
  refine ⟨hi, n, p, ts, st, past, rfl, T, trivial, rfl, rfl, ts, st.rs, rfl, hrs, .inr ⟨rfl, hi, n, p, ts, st, past, rfl, T, trivial, ts, rfl, wf.ot, rfl, ts, st.rs, rfl, _, rfl, by omega, by omega, ⟨by omega, by omega⟩, ?_⟩⟩
  have T1 := tab_new (K := K) (ts := ts) (m := m)
  have T0 := T.app [.ins (ga K "Table") (tabF K ts (initS ts) (m.length + 1)), .lst []]
  have ht1 := hasT_app (tl := [.ins (ga K "Table") (tabF K ts (initS ts) (m.length + 1)), .lst []]) ht
  have hln := T.ln
  have hlp := T.lp
  have hpre : ∀ i, i < m.length → (m ++ [MO.ins (ga K "Table") (tabF K ts (initS ts) (m.length + 1)), .lst []])[i]? = m[i]? := fun i hi => List.getElem?_append_left hi
  have hlen : (m ++ [MO.ins (ga K "Table") (tabF K ts (initS ts) (m.length + 1)), .lst []]).length = m.length + 2 := by simp
  generalize m ++ [MO.ins (ga K "Table") (tabF K ts (initS ts) (m.length + 1)), .lst []] = m1 at T1 T0 ht1 hpre hlen ⊢
  unfold rngD
  refine forL_O (c := fun k : Nat => D.int (0 + (k : Int))) (I := fun done rest δ m' => done.length + rest.length = st.rs.length ∧ rest = (List.range st.rs.length).drop done.length ∧ (∃ x y, δ = [some (.ref n), some (uD K ts st.rs), some (.ref m.length), x, y]) ∧
    ∃ pk : List St, pk.length = done.length ∧ m' = setTab K m.length (m.length + 1) ts (repS ts (st.rs.take done.length)) pk m1) (fun _ _ _ _ _ => trivial) (fun ds δ m' ⟨h1, h2, ⟨x, y, h3⟩, pk, h4, h5⟩ => ?_) (fun ds x xs δ m' ⟨h1, h2, ⟨y, z, h3⟩, pk, h4, h5⟩ N hN => ?_) [] _ _ _ ⟨by simp, by simp, ⟨_, _, rfl⟩, [], rfl, by rw [List.length_nil, List.take_zero]; exact T1.same.symm⟩
  · subst h3 h5
    simp only [List.length_nil, Nat.add_zero] at h1
    rw [h1, List.take_of_length_le (Nat.le_refl _)]
    have T2 := T1.set (st' := repS ts st.rs) (past' := pk)
    have T3 := T0.other (n' := m.length) (p' := m.length + 1) (ts' := ts) (st' := repS ts st.rs) (past' := pk) (by omega) (by omega) (by omega) (by omega)
    obtain ⟨r1, r2⟩ := repS_rs ts st.rs
    have hpre2 : ∀ i, i < m.length → (setTab K m.length (m.length + 1) ts (repS ts st.rs) pk m1)[i]? = m[i]? := fun i hi => by rw [setTab_get (by omega) (by omega)]; exact hpre i hi
    have hlen2 : (setTab K m.length (m.length + 1) ts (repS ts st.rs) pk m1).length = m.length + 2 := by rw [setTab_length]; exact hlen
    generalize setTab K m.length (m.length + 1) ts (repS ts st.rs) pk m1 = m2 at T2 T3 hpre2 hlen2 ⊢
    have i2 : instD (ga K "Table") m2 (.ref m.length) := .inr ⟨_, T2.ins⟩
    have i3 : instD (ga K "Table") m2 (.ref n) := .inr ⟨_, T3.ins⟩
    simp
    refine ⟨i2, _, _, _, _, _, rfl, T2, trivial, rfl, ts, st.rs, by simp only [r1], hrs, .inr ⟨rfl, i2, _, _, _, _, _, rfl, T2, trivial, _, rfl, by omega, by simp only [r1]; omega, i3, _, _, _, _, _, rfl, T3, trivial, _, rfl, by omega, by omega, .inl ⟨by simp only [r1], i2, _, _, _, _, _, rfl, T2, trivial, i3, _, _, _, _, _, rfl, T3, trivial, ?_⟩⟩⟩
    simp [r2]
    refine ⟨i3, _, _, _, _, _, rfl, T3, trivial, ?_⟩
    refine forL_O (α := Int) (c := D.int) (I := fun done rest δ m' => (∃ y, δ = [some (.ref n), some (uD K ts st.rs), some (.ref m.length), x, y]) ∧ done ++ rest = st.run ∧ m' = m2) (fun _ _ _ _ _ => trivial) (fun ds δ m' ⟨⟨y, e1⟩, e2, e3⟩ => ?_) (fun ds t xs δ m' ⟨⟨y, e1⟩, e2, e3⟩ N hN => ?_) [] st.run _ _ ⟨⟨_, rfl⟩, rfl, rfl⟩
    · subst e1 e3
      obtain ⟨X, hX⟩ := pre_split (by omega) hpre2
      rw [hX]
      exact Fin.drop (.cl rfl) h
    · subst e1 e3
      have htr : t ∈ st.run := by rw [← e2]; simp
      have htt : t ∈ ts := wf.sub.mem htr
      obtain ⟨q1, q2⟩ := wf.rep t htr
      simp
      refine ⟨i2, _, _, _, _, _, rfl, T2, wf.ot, _, rfl, _, vl_names htt, i3, _, _, _, _, _, rfl, T3, wf.ot, _, rfl, _, vl_names htt, by rw [dat_opt]; exact sh_opt _, by rw [dat_opt]; exact sh_opt _, .inl ⟨by rw [dat_opt, dat_opt, q1]; exact eq_opt _, i2, _, _, _, _, _, rfl, T2, wf.ot, ⟨_, rfl⟩, _, rfl, i3, _, _, _, _, _, rfl, T3, wf.ot, ⟨_, rfl⟩, _, rfl, ?_, ?_, .inl ⟨?_, hN _ _ ⟨⟨_, rfl⟩, by simpa using e2, rfl⟩⟩⟩⟩
      · rw [vl_places htt, dat_seP]; exact (Dat_seP _).sh (by decide)
      · rw [vl_places htt, dat_seP]; exact (Dat_seP _).sh (by decide)
      · rw [vl_places htt, vl_places htt, dat_seP, dat_seP, q2]; exact eqD_refl (Dat_seP _)
  · subst h3 h5
    have hx : x = ds.length := by
      have := congrArg List.head? h2
      simp only [List.length_cons] at h1
      rw [List.head?_drop, List.getElem?_range (by omega)] at this
      simpa using this
    have hr : xs = (List.range st.rs.length).drop (ds.length + 1) := by
      have := congrArg List.tail h2
      rw [List.tail_drop] at this
      exact this
    simp only [List.length_cons] at h1
    have hxl : x < st.rs.length := by omega
    have hb : st.rs[x]? = some st.rs[x] := List.getElem?_eq_getElem hxl
    have T2 := T1.set (st' := repS ts (st.rs.take ds.length)) (past' := pk)
    have ht2 := T1.hasT (st' := repS ts (st.rs.take ds.length)) (past' := pk) ht1
    have w2 := repS_wf wf.ot wf.rs ds.length (by omega)
    obtain ⟨r1, r2⟩ := repS_rs ts (st.rs.take ds.length)
    have hm := wf.rs.2 st.rs[x] (List.getElem_mem _)
    have hrep : repS ts (st.rs.take (ds ++ [x]).length) = goS ts (repS ts (st.rs.take ds.length)) st.rs[x] := by
      rw [List.length_append, List.length_singleton, ← repS_snoc, List.take_add_one, ← hx, hb]; rfl
    have hN2 := hN [some (.ref n), some (uD K ts st.rs), some (.ref m.length), some (.int (0 + (x : Int))), z] (setTab K m.length (m.length + 1) ts (goS ts (repS ts (st.rs.take ds.length)) st.rs[x]) (pk ++ [repS ts (st.rs.take ds.length)]) m1) ⟨by rw [List.length_append, List.length_singleton]; omega, by rw [List.length_append, List.length_singleton]; exact hr, ⟨_, _, rfl⟩, pk ++ [repS ts (st.rs.take ds.length)], by simp [h4], by rw [hrep]⟩
    rw [← setTab_set T1.ne (st := repS ts (st.rs.take ds.length)) (past := pk)] at hN2
    generalize setTab K m.length (m.length + 1) ts (repS ts (st.rs.take ds.length)) pk m1 = m2 at T2 ht2 hN2 ⊢
    simp
    refine ⟨⟨_, T2.ins, tF_no (by decide)⟩, ts, st.rs, x, st.rs[x], rfl, hrs, hb, _, _, _, _, _, st.rs[x], rfl, T2, w2, hm.1, by rw [hm.2, r2], by rw [r1, List.length_take]; omega, by omega, ht2, ?_⟩
    simpa using hN2
theorem take_it {ts : List Int} {bs : Bs} {st : St} {past : List St} : ∀ k, (itP ts bs st past k ++ [itS ts bs st k]).take (past.length + 1) = past ++ [st]
  | 0 => by
    show (past ++ [st]).take _ = _
    exact List.take_of_length_le (by simp)
  | k + 1 => by
    have ih := take_it (ts := ts) (bs := bs) (st := st) (past := past) k
    show ((itP ts bs st past k ++ [itS ts bs st k]) ++ [_]).take _ = _
    rw [List.take_append_of_le_length (by rw [List.length_append, itP_len]; simp)]
    exact ih
def sp__law_finished_right (K : PySem.W.Frag) : DRs := fun ds m R => ∃ (q n p k : Nat) (v : Pv) (ts : List Int) (st : St) (past : List St), ds = [.ref q, .ref n] ∧ m[q]? = some (potO v) ∧ PB k v ∧ k < 2 ^ 60 ∧ Tab K n p ts st past m ∧ Wf ts st ∧ past.length ≤ 800 ∧ hasT (tbP K "place_of") m ∧ hasT (tbP K "require_pieces") m ∧
  ∀ v' : Pv, PB (k + 1) v' → R (.bl true) (m.set q (potO v'))
theorem hasT_set {P : Addr} {m : Mu} {q : Nat} {xs ys : List D} (h : hasT P m) (hq : m[q]? = some (.lst xs)) : hasT P (m.set q (.lst ys)) := by
  obtain ⟨n, e⟩ := h
  refine ⟨n, ?_⟩
  rw [List.getElem?_set_ne]
  · exact e
  · rintro rfl; rw [hq] at e; cases e
theorem Tab.setq {K : PySem.W.Frag} {n p q : Nat} {ts : List Int} {st : St} {past : List St} {m : Mu} {X : MO} (h : Tab K n p ts st past m) (h1 : n ≠ q) (h2 : p ≠ q) : Tab K n p ts st past (m.set q X) :=
  ⟨by rw [List.getElem?_set_ne (Ne.symm h1)]; exact h.ins, by rw [List.getElem?_set_ne (Ne.symm h2)]; exact h.lst⟩
theorem tab_pot {K : PySem.W.Frag} {n p q : Nat} {ts : List Int} {st : St} {past : List St} {m : Mu} {v : Pv} (T : Tab K n p ts st past m) (hq : m[q]? = some (potO v)) : p ≠ q := by
  rintro rfl
  rw [T.lst] at hq
  have e := MO.lst.inj (Option.some.inj hq)
  cases past with
  | nil => cases e
  | cons a r => rw [List.map_cons] at e; injection e with e1 e2; cases e1
theorem hp__law_finished_right (K : PySem.W.Frag) : ∀ ds m R, sp__law_finished_right K ds m R → T__law_finished_right K (sp_Table_twin K) (sp__law_choose K) (sp_Table_finish K) (sp__law_standing K) (sp_Table___len__ K) (sp__law_replayed_right K) (sp_Table_undo K) (sp_Table_running K) (sp_Table___eq__ K) (sp_Table_go K) (mk_Round K) (endsD m R) (startD ["pot", "table", "twin", "joint", "more", "last", "end", "turn", "thread"] ds) m := by
  rintro ds m R ⟨q, n, p, k, v, ts, st, past, rfl, hq, pb, hk, T, wf, hpl, ht, hr, h⟩
  have hrs := wf.rs.1
  have hql : q < m.length := (List.getElem?_eq_some_iff.mp hq).1
  have hpq : p ≠ q := tab_pot T hq
  have hnq : n ≠ q := fun e => by rw [← e, T.ins] at hq; cases hq
  have hln := T.ln
  have hlp := T.lp
  have orun := okTh_sub wf.ot wf.sub wf.ne
  simp [T__law_finished_right, startD]
  refine ⟨⟨_, T.ins, tF_no (by decide)⟩, n, p, ts, st, past, rfl, T, wf.ot, by decide, q, k, v, _, _, rfl, .inl rfl, app_get hq _, pb, hk, by simp, by decide, fun x hx v2 pb2 => ?_⟩
  obtain ⟨b, rfl⟩ : ∃ b : Bool, x = .bl b := by
    simp at hx
    rcases hx with rfl | rfl <;> exact ⟨_, rfl⟩
  obtain ⟨ob, or⟩ := fbS_ok orun b
  have hpre : ∀ i, i < m.length → ((m ++ [MO.ins (ga K "Table") (tabF K ts st (m.length + 2)), .lst [], .lst (past.map (stD K ts))]).set q (potO v2))[i]? = (m.set q (potO v2))[i]? := fun i hi => by
    rw [app_set hql, List.getElem?_append_left (by simpa using hi)]
  have hlen : ((m ++ [MO.ins (ga K "Table") (tabF K ts st (m.length + 2)), .lst [], .lst (past.map (stD K ts))]).set q (potO v2)).length = m.length + 3 := by simp
  have Tw0 : Tab K m.length (m.length + 2) ts st past (m ++ [MO.ins (ga K "Table") (tabF K ts st (m.length + 2)), .lst [], .lst (past.map (stD K ts))]) := ⟨app_get0 _ _ _, by simp⟩
  have Tw := Tw0.setq (X := potO v2) (show m.length ≠ q by omega) (show m.length + 2 ≠ q by omega)
  have T2 := (T.app [MO.ins (ga K "Table") (tabF K ts st (m.length + 2)), .lst [], .lst (past.map (stD K ts))]).setq (X := potO v2) hnq hpq
  have ht2 := hasT_set (ys := [.int v2.1, .int v2.2.1, .int v2.2.2]) (hasT_app (tl := [MO.ins (ga K "Table") (tabF K ts st (m.length + 2)), .lst [], .lst (past.map (stD K ts))]) ht) (app_get hq _)
  have hr2 := hasT_set (ys := [.int v2.1, .int v2.2.1, .int v2.2.2]) (hasT_app (tl := [MO.ins (ga K "Table") (tabF K ts st (m.length + 2)), .lst [], .lst (past.map (stD K ts))]) hr) (app_get hq _)
  rw [show MO.lst [.int v2.1, .int v2.2.1, .int v2.2.2] = potO v2 from rfl] at ht2 hr2
  generalize (m ++ [MO.ins (ga K "Table") (tabF K ts st (m.length + 2)), .lst [], .lst (past.map (stD K ts))]).set q (potO v2) = m2 at *
  refine ⟨⟨_, Tw.ins, tF_no (by decide)⟩, m.length, m.length + 2, ts, st, past, b, rfl, Tw, wf, by omega, ht2, fun j hj => ?_⟩
  have hset : ∀ s1 s2 p1 p2, setTab K m.length (m.length + 2) ts s1 p1 (setTab K m.length (m.length + 2) ts s2 p2 m2) = setTab K m.length (m.length + 2) ts s1 p1 m2 := fun s1 s2 p1 p2 => setTab_set Tw.ne
  have Tk : ∀ i, Tab K m.length (m.length + 2) ts (itS ts (fbS b st.run) st i) (itP ts (fbS b st.run) st past i) (setTab K m.length (m.length + 2) ts (itS ts (fbS b st.run) st i) (itP ts (fbS b st.run) st past i) m2) := fun i => Tw.set
  have To : ∀ i, Tab K n p ts st past (setTab K m.length (m.length + 2) ts (itS ts (fbS b st.run) st i) (itP ts (fbS b st.run) st past i) m2) := fun i => T2.other (by omega) (by omega) (by omega) (by omega)
  have htk : ∀ i, hasT (tbP K "place_of") (setTab K m.length (m.length + 2) ts (itS ts (fbS b st.run) st i) (itP ts (fbS b st.run) st past i) m2) := fun i => Tw.hasT ht2
  have hrk : ∀ i, hasT (tbP K "require_pieces") (setTab K m.length (m.length + 2) ts (itS ts (fbS b st.run) st i) (itP ts (fbS b st.run) st past i) m2) := fun i => Tw.hasT hr2
  have wk : ∀ i, st.rs.length + i ≤ 6 → Wf ts (itS ts (fbS b st.run) st i) := fun i hi => itS_wf wf ob or i hi
  have ij := itS_len ts (fbS b st.run) st j
  have pj := itP_len ts (fbS b st.run) st past j
  have loop : ∀ (y z : Option D) (N : DS → Mu → Prop), (∀ y z, N [some (.ref q), some (.ref n), some (.ref m.length), some (.bl b), some (.int j), some (.str (sTx ts st)), some (.str (sTx ts (itS ts (fbS b st.run) st j))), y, z] (setTab K m.length (m.length + 2) ts (itS ts (fbS b st.run) st j) (itP ts (fbS b st.run) st past j) m2)) → ∀ (rt : D → Mu → Prop) (bk ct : DS → Mu → Prop),
      forL (dName 7) (dDrop (dMethI (ga K "Table") "go" (sp_Table_go K) (dVar 2) (dCons (dCall (mk_Round K) (dCons (dIf (dTB (dVar 3)) (dTup (dCons (dProp (ga K "Table") (sp_Table_running K) (dVar 2)) dNil)) (dCall dTupleOf (dCons (dLc (dISeq (dProp (ga K "Table") (sp_Table_running K) (dVar 2))) (dName 8) dYes (dTup (dCons (dVar 8) dNil)) [8]) dNil))) dNil)) dNil)))
        { nx := N, rt := rt, bk := bk, ct := ct } (fun _ => True) (rngD 0 j) [some (.ref q), some (.ref n), some (.ref m.length), some (.bl b), some (.int j), some (.str (sTx ts st)), some (.str (sTx ts (itS ts (fbS b st.run) st j))), y, z] m2 := by
    intro y z N hN rt bk ct
    unfold rngD
    refine forL_O (c := fun k : Nat => D.int (0 + (k : Int))) (I := fun done rest δ m' => done.length + rest.length = j ∧ (∃ y z, δ = [some (.ref q), some (.ref n), some (.ref m.length), some (.bl b), some (.int j), some (.str (sTx ts st)), some (.str (sTx ts (itS ts (fbS b st.run) st j))), y, z]) ∧
      m' = setTab K m.length (m.length + 2) ts (itS ts (fbS b st.run) st done.length) (itP ts (fbS b st.run) st past done.length) m2) (fun _ _ _ _ _ => trivial) (fun ds δ m' ⟨h1, ⟨y, z, h2⟩, h3⟩ => ?_) (fun ds x xs δ m' ⟨h1, ⟨y, z, h2⟩, h3⟩ N' hN' => ?_) [] _ _ _ ⟨by simp, ⟨_, _, rfl⟩, Tw.same.symm⟩
    · subst h2 h3
      simp only [List.length_nil, Nat.add_zero] at h1
      rw [h1]
      exact hN y z
    · subst h2 h3
      simp only [List.length_cons] at h1
      have hstep := hN' [some (.ref q), some (.ref n), some (.ref m.length), some (.bl b), some (.int j), some (.str (sTx ts st)), some (.str (sTx ts (itS ts (fbS b st.run) st j))), some (.int x), z] (setTab K m.length (m.length + 2) ts (goS ts (itS ts (fbS b st.run) st ds.length) (fbS b st.run)) (itP ts (fbS b st.run) st past ds.length ++ [itS ts (fbS b st.run) st ds.length]) m2) ⟨by rw [List.length_append, List.length_singleton]; omega, ⟨_, _, rfl⟩, by rw [List.length_append, List.length_singleton]; rfl⟩
      rw [← hset _ (itS ts (fbS b st.run) st ds.length) _ (itP ts (fbS b st.run) st past ds.length)] at hstep
      have T3 := Tk ds.length
      have ht3 := htk ds.length
      have w3 := wk ds.length (by omega)
      have hrun := itS_run ts (fbS b st.run) st ds.length
      have hl3 := itS_len ts (fbS b st.run) st ds.length
      have hp3 := itP_len ts (fbS b st.run) st past ds.length
      generalize setTab K m.length (m.length + 2) ts (itS ts (fbS b st.run) st ds.length) (itP ts (fbS b st.run) st past ds.length) m2 = m3 at *
      have i3 : instD (ga K "Table") m3 (.ref m.length) := .inr ⟨_, T3.ins⟩
      have fin : ∀ d, d = tB (fbS b st.run) → mk_Round K [d] m3 fun x_1 m1 => sp_Table_go K [.ref m.length, x_1] m1 fun x_2 m1 => N' [some (.ref q), some (.ref n), some (.ref m.length), some (.bl b), some (.int j), some (.str (sTx ts st)), some (.str (sTx ts (itS ts (fbS b st.run) st j))), some (.int x), z] m1 := by
        rintro _ rfl
        exact ⟨fbS b st.run, rfl, ob, _, _, _, _, _, fbS b st.run, rfl, T3, w3, ob, or.trans hrun.symm, by omega, by omega, ht3, hstep⟩
      simp
      refine ⟨⟨_, T3.ins, tF_no (by decide)⟩, ?_⟩
      have erun : (fun (_ : List Int) (st : St) => tI st.run) ts (itS ts (fbS b st.run) st ds.length) = tI st.run := congrArg tI hrun
      cases b with
      | true =>
        refine .inr ⟨rfl, i3, _, _, _, _, _, rfl, T3, trivial, by decide, fin _ ?_⟩
        rw [erun]
        rfl
      | false =>
        refine .inl ⟨rfl, i3, _, _, _, _, _, rfl, T3, trivial, ?_⟩
        rw [erun]
        refine lcL_mapO (α := Int) (c := D.int) (f := fun t => tI [t]) trivial st.run [] (fun x hx A B hA => ?_) (by have := orun.2.2.2; simp; unfold sizeLine; omega) ?_
        · simp [dwipe]
          exact ⟨by decide, hA⟩
        · refine fin _ ?_
          simp [fbS, tB]
  have Tj := Tk j
  have Toj := To j
  have htj := htk j
  have hrj := hrk j
  have wj := wk j hj
  have hset0 : ∀ s1 p1, setTab K m.length (m.length + 2) ts s1 p1 (setTab K m.length (m.length + 2) ts (itS ts (fbS b st.run) st j) (itP ts (fbS b st.run) st past j) m2) = setTab K m.length (m.length + 2) ts s1 p1 m2 := fun s1 p1 => hset _ _ _ _
  have hprej : ∀ i, i < m.length → (setTab K m.length (m.length + 2) ts (itS ts (fbS b st.run) st j) (itP ts (fbS b st.run) st past j) m2)[i]? = (m.set q (potO v2))[i]? := fun i hi => by rw [setTab_get (by omega) (by omega)]; exact hpre i hi
  have hlenj : (setTab K m.length (m.length + 2) ts (itS ts (fbS b st.run) st j) (itP ts (fbS b st.run) st past j) m2).length = m.length + 3 := by rw [setTab_length]; exact hlen
  have tk := take_it (ts := ts) (bs := fbS b st.run) (st := st) (past := past) j
  generalize setTab K m.length (m.length + 2) ts (itS ts (fbS b st.run) st j) (itP ts (fbS b st.run) st past j) m2 = m3 at *
  have i0 : instD (ga K "Table") m3 (.ref n) := .inr ⟨_, Toj.ins⟩
  have i1 : instD (ga K "Table") m3 (.ref m.length) := .inr ⟨_, Tj.ins⟩
  refine ⟨_, _, _, _, _, rfl, Toj, wf, i1, _, _, _, _, _, rfl, Tj, trivial, _, rfl, by omega, by omega, i0, _, _, _, _, _, rfl, Toj, trivial, _, rfl, by omega, by omega, by simp, .inl ⟨?_, _, _, _, _, _, rfl, Tj, wj, htj, hrj, .inr ⟨rfl, ?_⟩⟩⟩
  · simp
    omega
  refine ⟨_, _, _, _, _, rfl, Tj, wj, ⟨_, Tj.ins, tF_no (by decide)⟩, _, _, _, _, _, j, rfl, Tj, by omega, by omega, fun st' past' he => ?_⟩
  rw [show (itP ts (fbS b st.run) st past j).length + 1 - j = past.length + 1 by omega, tk] at he
  obtain ⟨e1, e2⟩ := List.append_inj' he rfl
  cases e2
  subst e1
  rw [hset0, Tw.same]
  have i2 : instD (ga K "Table") m2 (.ref n) := .inr ⟨_, T2.ins⟩
  have i4 : instD (ga K "Table") m2 (.ref m.length) := .inr ⟨_, Tw.ins⟩
  simp
  refine ⟨i2, _, _, _, _, _, rfl, T2, trivial, ?_⟩
  simp
  refine ⟨i4, i2, _, _, _, _, _, _, _, _, _, rfl, Tw, T2, rfl, rfl, hrs, .inr ⟨rfl, ?_⟩⟩
  refine ⟨_, _, _, _, _, rfl, Tw, wf, _, _, rfl, rfl, .inl ⟨by simp, by omega, loop _ _ _ (fun y z => ?_) _ _ _⟩⟩
  simp
  refine ⟨_, _, _, _, _, rfl, Tj, wj, _, _, rfl, rfl, .inr ⟨by simp, ?_⟩⟩
  refine ⟨_, _, _, _, _, rfl, Toj, wf, _, _, rfl, rfl, ?_⟩
  rw [decide_eq_true (by rfl)]
  obtain ⟨X, hX⟩ := pre_split (m := m.set q (potO v2)) (m' := m3) (by simp; omega) (by simpa using hprej)
  rw [hX]
  exact Fin.dropS hql (by rfl) (.cl rfl) (h v2 pb2)
def sp__law_right (K : PySem.W.Frag) : DRs := fun ds m R => ∃ (q k : Nat) (v : Pv), ds = [.ref q] ∧ m[q]? = some (potO v) ∧ PB k v ∧ k + 200 < 2 ^ 60 ∧ hasT (tbP K "place_of") m ∧ hasT (tbP K "require_pieces") m ∧
  ∀ v' : Pv, PB (k + 200) v' → R (.bl true) (m.set q (potO v'))
/-- what stands in the store while the law goes on -/
structure LR (K : PySem.W.Frag) (m : Mu) (q k : Nat) (ts : List Int) (st : St) (pl : List St) (pi : Nat) (m' : Mu) : Prop where
  ex : ∃ v, PB k v ∧ m'[q]? = some (potO v) ∧ ∀ i, i < m.length → m'[i]? = (m.set q (potO v))[i]?
  ql : q < m.length
  le : m.length + 3 ≤ m'.length
  tab : Tab K m.length (m.length + 1) ts st pl m'
  pst : m'[pi]? = some (.lst (pl.map fun s => .str (sTx ts s)))
  ge : m.length + 2 ≤ pi
  wf : Wf ts st
  wl : ∀ s ∈ pl, Wf ts s
  hd : (pl ++ [st]).head? = some (initS ts)
  t1 : hasT (tbP K "place_of") m'
  t2 : hasT (tbP K "require_pieces") m'
section
variable {K : PySem.W.Frag} {m m' : Mu} {q k : Nat} {ts : List Int} {st : St} {pl : List St} {pi : Nat}
theorem LR.dip (l : LR K m q k ts st pl pi m') {k' : Nat} {v : Pv} (h : PB k' v) : LR K m q k' ts st pl pi (m'.set q (potO v)) := by
  obtain ⟨v0, p0, g0, h0⟩ := l.ex
  have hl := l.le
  have hq := l.ql
  have hg := l.ge
  refine ⟨⟨v, h, by rw [List.getElem?_set_self (by omega)], fun i hi => ?_⟩, hq, by simpa using hl, l.tab.setq (by omega) (by omega), by rw [List.getElem?_set_ne (by omega)]; exact l.pst, hg, l.wf, l.wl, l.hd, hasT_set l.t1 g0, hasT_set l.t2 g0⟩
  by_cases hiq : i = q
  · subst hiq
    rw [List.getElem?_set_self (by omega), List.getElem?_set_self hi]
  · rw [List.getElem?_set_ne (Ne.symm hiq), List.getElem?_set_ne (Ne.symm hiq), h0 i hi, List.getElem?_set_ne (Ne.symm hiq)]
theorem LR.mono (l : LR K m q k ts st pl pi m') {k' : Nat} (h : k ≤ k') : LR K m q k' ts st pl pi m' := by
  obtain ⟨v0, p0, g0, h0⟩ := l.ex
  exact ⟨⟨v0, p0.mono h, g0, h0⟩, l.ql, l.le, l.tab, l.pst, l.ge, l.wf, l.wl, l.hd, l.t1, l.t2⟩
end
section
variable {K : PySem.W.Frag} {m m' : Mu} {q k : Nat} {ts : List Int} {st st' : St} {pl pl' : List St} {pi : Nat}
theorem LR.push (l : LR K m q k ts st pl pi m') (w : Wf ts st') : LR K m q k ts st' (pl ++ [st]) pi ((setTab K m.length (m.length + 1) ts st' (pl ++ [st]) m').set pi (.lst (pl.map (fun s => .str (sTx ts s)) ++ [.str (sTx ts st)]))) := by
  obtain ⟨v0, p0, g0, h0⟩ := l.ex
  have hl := l.le
  have hq := l.ql
  have hg := l.ge
  have hpl : pi < m'.length := (List.getElem?_eq_some_iff.mp l.pst).1
  have e1 : ∀ i, i ≠ m.length → i ≠ m.length + 1 → i ≠ pi → ((setTab K m.length (m.length + 1) ts st' (pl ++ [st]) m').set pi (.lst (pl.map (fun s => .str (sTx ts s)) ++ [.str (sTx ts st)])))[i]? = m'[i]? := fun i h1 h2 h3 => by
    rw [List.getElem?_set_ne (Ne.symm h3), setTab_get h1 h2]
  have gp : (setTab K m.length (m.length + 1) ts st' (pl ++ [st]) m')[pi]? = some (.lst (pl.map fun s => .str (sTx ts s))) := by
    rw [setTab_get (by omega) (by omega)]; exact l.pst
  refine ⟨⟨v0, p0, by rw [e1 q (by omega) (by omega) (by omega)]; exact g0, fun i hi => by rw [e1 i (by omega) (by omega) (by omega)]; exact h0 i hi⟩, hq, by rw [List.length_set, setTab_length]; exact hl, (l.tab.set).setq (by omega) (by omega), ?_, hg, w, fun s hs => ?_, ?_, hasT_set (l.tab.hasT l.t1) gp, hasT_set (l.tab.hasT l.t2) gp⟩
  · rw [List.getElem?_set_self (by rw [setTab_length]; exact hpl), List.map_append]; rfl
  · rcases List.mem_append.mp hs with h | h
    · exact l.wl s h
    · rw [List.mem_singleton.mp h]; exact l.wf
  · have := l.hd
    rw [List.head?_append] at this ⊢
    rw [List.head?_append]
    cases e : pl.head? with
    | none => rw [e] at this; simpa using this
    | some a => rw [e] at this; simpa using this
theorem LR.cut (l : LR K m q k ts st pl pi m') {j : Nat} (e : pl' ++ [st'] = (pl ++ [st]).take j) : LR K m q k ts st' pl' m'.length (setTab K m.length (m.length + 1) ts st' pl' m' ++ [.lst (pl'.map fun s => .str (sTx ts s))]) := by
  obtain ⟨v0, p0, g0, h0⟩ := l.ex
  have hl := l.le
  have hq := l.ql
  have hg := l.ge
  have wl : ∀ s ∈ pl ++ [st], Wf ts s := fun s hs => by
    rcases List.mem_append.mp hs with h | h
    · exact l.wl s h
    · rw [List.mem_singleton.mp h]; exact l.wf
  have wl2 : ∀ s ∈ pl' ++ [st'], Wf ts s := fun s hs => wl s (List.mem_of_mem_take (e ▸ hs))
  refine ⟨⟨v0, p0, app_get (by rw [setTab_get (by omega) (by omega)]; exact g0) _, fun i hi => by rw [List.getElem?_append_left (by rw [setTab_length]; omega), setTab_get (by omega) (by omega)]; exact h0 i hi⟩, hq, by rw [List.length_append, setTab_length]; omega, (l.tab.set).app _, ?_, by omega, wl2 _ (by simp), fun s hs => wl2 s (List.mem_append_left _ hs), ?_, hasT_app (l.tab.hasT l.t1), hasT_app (l.tab.hasT l.t2)⟩
  · rw [List.getElem?_append_right (by rw [setTab_length]; omega), setTab_length]; simp
  · rw [e]
    have := l.hd
    have hj : j ≠ 0 := fun z => by rw [z] at e; simp at e
    rw [List.head?_take, if_neg hj]; exact this
end
theorem take_last {pl pl' : List St} {st st' : St} {j : Nat} (he : pl' ++ [st'] = (pl ++ [st]).take (pl.length + 1 - j)) (h1 : 1 ≤ j) (h2 : j ≤ pl.length) : pl' = pl.take (pl.length - j) ∧ pl[pl.length - j]? = some st' := by
  rw [List.take_append_of_le_length (by omega), show pl.length + 1 - j = (pl.length - j) + 1 by omega, List.take_add_one] at he
  have hg : pl[pl.length - j]? = some (pl[pl.length - j]'(by omega)) := List.getElem?_eq_getElem (by omega)
  rw [hg] at he
  obtain ⟨e1, e2⟩ := List.append_inj' he rfl
  cases e2
  exact ⟨e1, hg⟩
theorem hp__law_right (K : PySem.W.Frag) : ∀ ds m R, sp__law_right K ds m R → T__law_right K (mk_Table K) (sp__law_old_names K) (sp__law_dip K) (sp__law_standing K) (sp_Table_undo K) (sp_Table_running K) (sp_Table_stop K) (sp__law_choose K) (sp_Table___len__ K) (sp_Table_go K) (mk_Round K) (sp__law_blocks K) (sp__law_replayed_right K) (sp__law_finished_right K) (sp_Table_undo0 K) (sp_Table___eq__ K) (sp_Table_threads K) (endsD m R) (startD ["pot", "table", "past", "turn", "ahead", "way", "many", "elder"] ds) m := by
  rintro ds m R ⟨q, k, v, rfl, hq, pb, hk, ht, hr, h⟩
  have hql : q < m.length := (List.getElem?_eq_some_iff.mp hq).1
  simp [T__law_right, startD]
  refine ⟨q, k, v, 5, rfl, hq, pb, by omega, by omega, by decide +kernel, fun r1 v1 r10 r11 pb1 => ?_⟩
  simp
  refine ⟨q, k + 1, v1, (1 + r1).toNat, by rw [show ((1 + r1).toNat : Int) = 1 + r1 by omega], by simp [hql], pb1, by omega, by omega, by omega, fun ts ots v2 pb2 => ⟨ts, rfl, ots, ?_⟩⟩
  simp only [List.set_set, List.length_set]
  refine ⟨q, k + 7, v2, 6, rfl, app_get (app_get (by simp [hql]) _) _, pb2, by omega, by omega, by decide +kernel, fun r2 v3 r20 r21 pb3 => ?_⟩
  simp only [s_dAdd_i]
  refine ⟨_, rfl, by omega, ?_⟩
  have l0 : LR K m q (k + 8) ts (initS ts) [] (m.length + 2) (((m.set q (potO v2) ++ [MO.ins (ga K "Table") (tabF K ts (initS ts) (m.length + 1)), MO.lst []]) ++ [MO.lst []]).set q (potO v3)) := by
    rw [app_set (by simp; omega), app_set (by simpa using hql), List.set_set, List.append_assoc]
    have htb : ∀ P, hasT P m → hasT P (m.set q (potO v3)) := fun P h => hasT_set h hq
    refine ⟨⟨v3, pb3, app_get (by simp [hql]) _, fun i hi => List.getElem?_append_left (by simpa using hi)⟩, hql, by simp, ⟨?_, ?_⟩, ?_, Nat.le_refl _, wf_init ots, by simp, rfl, hasT_app (htb _ ht), hasT_app (htb _ hr)⟩
    · rw [List.getElem?_append_right (by simp)]; simp
    · rw [List.getElem?_append_right (by simp)]; simp
    · rw [List.getElem?_append_right (by simp)]; simp
  have ep : (m.set q (potO v2) ++ [MO.ins (ga K "Table") (tabF K ts (initS ts) (m.length + 1)), MO.lst []]).length = m.length + 2 := by simp
  rw [ep]
  generalize ((m.set q (potO v2) ++ [MO.ins (ga K "Table") (tabF K ts (initS ts) (m.length + 1)), MO.lst []]) ++ [MO.lst []]).set q (potO v3) = m0 at l0
  unfold rngD
  refine forL_O (c := fun k : Nat => D.int (0 + (k : Int))) (I := fun done rest δ m' => done.length + rest.length = (4 + r2).toNat ∧ ∃ st pl pi, (∃ a b c d, δ = [some (.ref q), some (.ref m.length), some (.ref pi), a, b, c, d, none]) ∧ pl.length ≤ done.length ∧ LR K m q (k + 8 + 12 * done.length) ts st pl pi m') (fun _ _ _ _ _ => trivial) (fun ds δ m' ⟨h1, st, pl, pi, ⟨a, b, c, d, h2⟩, h3, l⟩ => ?_) (fun ds x xs δ m' ⟨h1, st, pl, pi, ⟨a, b, c, d, h2⟩, h3, l⟩ N hN => ?_) [] _ _ _ ⟨by simp, initS ts, [], m.length + 2, ⟨_, _, _, _, rfl⟩, Nat.le_refl _, l0⟩
  · subst h2
    simp only [List.length_nil, Nat.add_zero] at h1
    obtain ⟨v0, p0, g0, h0⟩ := l.ex
    simp
    refine ⟨q, m.length, m.length + 1, k + 8 + 12 * ds.length, v0, ts, st, pl, rfl, g0, p0, by omega, l.tab, l.wf, by omega, l.t1, l.t2, fun v4 pb4 => .inr ⟨rfl, ?_⟩⟩
    have l1 := l.dip pb4
    generalize m'.set q (potO v4) = m1 at l1 ⊢
    refine ⟨pl.map fun s => .str (sTx ts s), by simp only [lstOf, l1.pst], ?_⟩
    rw [← List.map_reverse]
    refine forL_O (α := St) (c := fun s => .str (sTx ts s)) (I := fun done rest δ m' => done ++ rest = pl.reverse ∧ (∃ y, δ = [some (.ref q), some (.ref m.length), some (.ref pi), a, b, c, d, y]) ∧ ∃ s, Wf ts s ∧ (rest.reverse ++ [s]).head? = some (initS ts) ∧ m' = setTab K m.length (m.length + 1) ts s rest.reverse m1) (fun _ _ _ _ _ => trivial) (fun es δ m' ⟨h1, ⟨y, h2⟩, s, ws, h3, h4⟩ => ?_) (fun es x xs δ m' ⟨h1, ⟨y, h2⟩, s, ws, h3, h4⟩ N hN => ?_) [] _ _ _ ⟨rfl, ⟨_, rfl⟩, st, l1.wf, by rw [List.reverse_reverse]; exact l1.hd, by rw [List.reverse_reverse]; exact l1.tab.same.symm⟩
    · subst h2 h4
      simp only [List.reverse_nil, List.nil_append, List.head?_cons, Option.some.injEq] at h3
      subst h3
      have T2 := l1.tab.set (st' := initS ts) (past' := [])
      rw [List.reverse_nil]
      obtain ⟨v5, p5, g5, h5⟩ := l1.ex
      have hq1 := l1.ge
      have hle := l1.le
      have hpre : ∀ i, i < m.length → (setTab K m.length (m.length + 1) ts (initS ts) [] m1)[i]? = (m.set q (potO v5))[i]? := fun i hi => by rw [setTab_get (by omega) (by omega)]; exact h5 i hi
      have hlen : (setTab K m.length (m.length + 1) ts (initS ts) [] m1).length = m1.length := setTab_length
      generalize setTab K m.length (m.length + 1) ts (initS ts) [] m1 = m2 at *
      have i2 : instD (ga K "Table") m2 (.ref m.length) := .inr ⟨_, T2.ins⟩
      simp
      have T3 := T2.app [.ins (ga K "Table") (tabF K ts (initS ts) (m2.length + 1)), .lst []]
      have Tn := tab_new (K := K) (ts := ts) (m := m2)
      have hlen2 : (m2 ++ [MO.ins (ga K "Table") (tabF K ts (initS ts) (m2.length + 1)), .lst []]).length = m2.length + 2 := by simp
      have hpre2 : ∀ i, i < m.length → (m2 ++ [MO.ins (ga K "Table") (tabF K ts (initS ts) (m2.length + 1)), .lst []])[i]? = (m.set q (potO v5))[i]? := fun i hi => by rw [List.getElem?_append_left (by omega)]; exact hpre i hi
      refine ⟨i2, _, _, _, _, _, rfl, T2, trivial, ts, rfl, l1.wf.ot, ?_⟩
      generalize m2 ++ [MO.ins (ga K "Table") (tabF K ts (initS ts) (m2.length + 1)), .lst []] = m3 at *
      have i3 : instD (ga K "Table") m3 (.ref m.length) := .inr ⟨_, T3.ins⟩
      have i4 : instD (ga K "Table") m3 (.ref m2.length) := .inr ⟨_, Tn.ins⟩
      refine ⟨i3, i4, _, _, _, _, _, _, _, _, _, rfl, T3, Tn, rfl, rfl, by simp [initS], .inr ⟨rfl, i3, _, _, _, _, _, rfl, T3, trivial, _, rfl, by omega, by simp [initS], ?_⟩⟩
      obtain ⟨X, hX⟩ := pre_split (m := m.set q (potO v5)) (m' := m3) (by simp; omega) (by simpa using hpre2)
      rw [hX]
      exact Fin.dropS hql (by rfl) (.cl rfl) (h v5 (p5.mono (by omega)))
    · subst h2 h4
      simp
      have hxm : x ∈ pl := by
        have : x ∈ pl.reverse := by rw [← h1]; simp
        simpa using this
      have wx := l1.wl x hxm
      have hxl : xs.length < pl.length := by
        have := congrArg List.length h1
        simp at this
        omega
      have T2 := l1.tab.set (st' := s) (past' := xs.reverse ++ [x])
      have hset : ∀ s1 p1, setTab K m.length (m.length + 1) ts s1 p1 (setTab K m.length (m.length + 1) ts s (xs.reverse ++ [x]) m1) = setTab K m.length (m.length + 1) ts s1 p1 m1 := fun s1 p1 => setTab_set l1.tab.ne
      have T3 : Tab K m.length (m.length + 1) ts x xs.reverse (setTab K m.length (m.length + 1) ts x xs.reverse (setTab K m.length (m.length + 1) ts s (xs.reverse ++ [x]) m1)) := T2.set
      refine ⟨⟨_, T2.ins, tF_no (by decide)⟩, m.length, rfl, m.length, m.length + 1, ts, s, xs.reverse ++ [x], 1, rfl, T2, by simp, by simp; omega, fun st' past' he => ?_⟩
      rw [show (xs.reverse ++ [x]).length + 1 - 1 = (xs.reverse ++ [x]).length by omega, List.take_append_of_le_length (Nat.le_refl _), List.take_length] at he
      obtain ⟨e1, e2⟩ := List.append_inj' he rfl
      cases e2
      subst e1
      refine ⟨_, _, _, _, _, rfl, T3, wx, _, _, rfl, rfl, .inl ⟨by simp, hN _ _ ⟨by simpa using h1, ⟨_, rfl⟩, x, wx, ?_, by rw [hset]⟩⟩⟩
      rw [List.reverse_cons, List.head?_append] at h3
      cases e : xs.reverse ++ [x] with
      | nil => simp at e
      | cons y r => rw [e] at h3; simpa using h3
  · subst h2
    simp only [List.length_cons] at h1
    have hT : ∀ st' pl' pi' m'' a b c d, LR K m q (k + 8 + 12 * ds.length + 12) ts st' pl' pi' m'' → pl'.length ≤ ds.length + 1 → sp__law_replayed_right K [.ref m.length] m'' fun x_3 m1 => x_3 = .bl false ∧ DL.Fin m R (.bl false) m1 ∨ x_3 = .bl true ∧ N [some (.ref q), some (.ref m.length), some (.ref pi'), a, b, c, d, none] m1 :=
      fun st' pl' pi' m'' a b c d l' hp' => ⟨m.length, m.length + 1, ts, st', pl', rfl, l'.tab, l'.wf, l'.t1, l'.t2, .inr ⟨rfl, hN _ _ ⟨by rw [List.length_append, List.length_singleton]; omega, st', pl', pi', ⟨_, _, _, _, rfl⟩, by rw [List.length_append, List.length_singleton]; exact hp', by rw [List.length_append, List.length_singleton]; exact l'.mono (by omega)⟩⟩⟩
    obtain ⟨v0, p0, g0, h0⟩ := l.ex
    simp
    refine ⟨m.length, m.length + 1, ts, st, pl, rfl, l.tab, l.wf, q, k + 8 + 12 * ds.length, v0, 6, rfl, g0, p0, by omega, by omega, by decide +kernel, fun r v1 r0 r1 pb1 => ?_⟩
    have l1 := l.dip pb1
    generalize m'.set q (potO v1) = m1 at l1 ⊢
    have T1 := l1.tab
    have i1 : instD (ga K "Table") m1 (.ref m.length) := .inr ⟨_, T1.ins⟩
    have hplt : pl.length ≤ 9 := by omega
    have hG : instD (ga K "Table") m1 (.ref m.length) ∧ sp_Table___len__ K [.ref m.length] m1 fun z m2 => ∃ i, z = .int i ∧ 0 ≤ i ∧ i < 9223372036854775808 ∧
        ((6 ≤ i ∧ sp__law_replayed_right K [.ref m.length] m2 fun x_3 m1 => x_3 = .bl false ∧ DL.Fin m R (.bl false) m1 ∨ x_3 = .bl true ∧ N [some (.ref q), some (.ref m.length), some (.ref pi), some (.int x), some (.str (sTx ts st)), some (.int r), d, none] m1) ∨
          i < 6 ∧ isObjI (ga K "Table") "go" m2 (.ref m.length) ∧ instD (ga K "Table") m2 (.ref m.length) ∧ sp_Table_running K [.ref m.length] m2 fun x_3 m1 => sp__law_blocks K [.ref q, x_3] m1 fun x_4 m1 => mk_Round K [x_4] m1 fun x_5 m1 => sp_Table_go K [.ref m.length, x_5] m1 fun x_6 m1 =>
            tyD "list" (.ref pi) m1 ∧ ∃ x_7, m1[pi]? = some (.lst x_7) ∧ x_7.length < sizeLine ∧ sp__law_replayed_right K [.ref m.length] (m1.set pi (.lst (x_7 ++ [.str (sTx ts st)]))) fun x_8 m1 => x_8 = .bl false ∧ DL.Fin m R (.bl false) m1 ∨ x_8 = .bl true ∧ N [some (.ref q), some (.ref m.length), some (.ref pi), some (.int x), some (.str (sTx ts st)), some (.int r), d, none] m1) := by
      have hrs := l1.wf.rs.1
      refine ⟨i1, _, _, _, _, _, rfl, T1, trivial, _, rfl, by omega, by omega, ?_⟩
      by_cases h6 : st.rs.length < 6
      · obtain ⟨v1', p1, g1, _⟩ := l1.ex
        have orun := okTh_sub l1.wf.ot l1.wf.sub l1.wf.ne
        refine .inr ⟨by omega, ⟨_, T1.ins, tF_no (by decide)⟩, i1, _, _, _, _, _, rfl, T1, trivial, q, k + 8 + 12 * ds.length + 1, v1', st.run, rfl, g1, p1, by omega, orun, fun bs okb hrb v2 pb2 => ?_⟩
        have l2 := l1.dip pb2
        generalize m1.set q (potO v2) = m2 at l2 ⊢
        refine ⟨bs, rfl, okb, m.length, m.length + 1, ts, st, pl, bs, rfl, l2.tab, l2.wf, okb, hrb, h6, by omega, l2.t1, ?_⟩
        have l3 := l2.push (wf_go l2.wf okb hrb h6)
        have gp : (setTab K m.length (m.length + 1) ts (goS ts st bs) (pl ++ [st]) m2)[pi]? = some (.lst (pl.map fun s => .str (sTx ts s))) := by
          have := l2.ge
          rw [setTab_get (by omega) (by omega)]; exact l2.pst
        refine ⟨⟨rfl, pl.map fun s => .str (sTx ts s), by simp only [lsqOf, lstOf, gp]⟩, _, gp, by rw [List.length_map]; unfold sizeLine; omega, ?_⟩
        exact hT _ _ _ _ _ _ _ _ l3 (by rw [List.length_append, List.length_singleton]; omega)
      · exact .inl ⟨by omega, hT _ _ _ _ _ _ _ _ (l1.mono (by omega)) (by omega)⟩
    have hS : 1 < st.run.length → isObjI (ga K "Table") "stop" m1 (.ref m.length) ∧ instD (ga K "Table") m1 (.ref m.length) ∧ sp_Table_running K [.ref m.length] m1 fun x_5 m1 => sp__law_choose K [.ref q, x_5] m1 fun x_6 m1 => sp_Table_stop K [.ref m.length, x_6] m1 fun x_7 m1 =>
            tyD "list" (.ref pi) m1 ∧ ∃ x_8, m1[pi]? = some (.lst x_8) ∧ x_8.length < sizeLine ∧ sp__law_replayed_right K [.ref m.length] (m1.set pi (.lst (x_8 ++ [.str (sTx ts st)]))) fun x_9 m1 => x_9 = .bl false ∧ DL.Fin m R (.bl false) m1 ∨ x_9 = .bl true ∧ N [some (.ref q), some (.ref m.length), some (.ref pi), some (.int x), some (.str (sTx ts st)), some (.int r), d, none] m1 := by
      intro hrun
      obtain ⟨v1', p1, g1, _⟩ := l1.ex
      have orun := okTh_sub l1.wf.ot l1.wf.sub l1.wf.ne
      refine ⟨⟨_, T1.ins, tF_no (by decide)⟩, i1, _, _, _, _, _, rfl, T1, trivial, q, k + 8 + 12 * ds.length + 1, v1', _, _, rfl, .inr rfl, g1, p1, by omega, by simpa using l1.wf.ne, by have := orun.2.2.2; simp; omega, fun y hy v2 pb2 => ?_⟩
      obtain ⟨t, ht, rfl⟩ := List.mem_map.mp hy
      have l2 := l1.dip pb2
      generalize m1.set q (potO v2) = m2 at l2 ⊢
      refine ⟨m.length, m.length + 1, ts, st, pl, t, rfl, l2.tab, l2.wf, ht, hrun, by omega, ?_⟩
      have l3 := l2.push (wf_stop (t := t) l2.wf hrun)
      have gp : (setTab K m.length (m.length + 1) ts (stopS st t) (pl ++ [st]) m2)[pi]? = some (.lst (pl.map fun s => .str (sTx ts s))) := by
        have := l2.ge
        rw [setTab_get (by omega) (by omega)]; exact l2.pst
      refine ⟨⟨rfl, pl.map fun s => .str (sTx ts s), by simp only [lsqOf, lstOf, gp]⟩, _, gp, by rw [List.length_map]; unfold sizeLine; omega, ?_⟩
      exact hT _ _ _ _ _ _ _ _ (l3.mono (by omega)) (by rw [List.length_append, List.length_singleton]; omega)
    simp
    by_cases h0 : r = 0
    · refine .inr ⟨h0, pl.map fun s => .str (sTx ts s), by simp only [lsqOf, lstOf, l1.pst], rfl, ?_⟩
      by_cases hpl0 : pl = []
      · refine .inl ⟨by rw [hpl0]; rfl, .inr ⟨by omega, i1, _, _, _, _, _, rfl, T1, trivial, _, len_tI _, ?_⟩⟩
        by_cases h1r : 1 < st.run.length
        · exact .inr ⟨by omega, hS h1r⟩
        · exact .inl ⟨by omega, hG⟩
      · refine .inr ⟨by simpa using hpl0, ?_⟩
        clear hG hS
        obtain ⟨v1', p1, g1, _⟩ := l1.ex
        have hpos := List.length_pos_iff.mpr hpl0
        have hps := l1.pst
        refine ⟨pl.length, by simp [lenOf, seqOf, tupOf, lstOf, hps], q, k + 8 + 12 * ds.length + 1, v1', pl.length, rfl, g1, p1, by omega, by omega, by omega, fun r3 v2 r30 r31 pb2 => ?_⟩
        have l2 := l1.dip pb2
        generalize m1.set q (potO v2) = m2 at l2 ⊢
        simp only [s_dAdd_i]
        obtain ⟨j, hj⟩ : ∃ j : Nat, 1 + r3 = (j : Int) := ⟨(1 + r3).toNat, by omega⟩
        rw [hj]
        refine ⟨⟨_, l2.tab.ins, tF_no (by decide)⟩, m.length, m.length + 1, ts, st, pl, j, rfl, l2.tab, by omega, by omega, fun st' pl' he => ?_⟩
        obtain ⟨hp1, hp2⟩ := take_last he (by omega) (by omega)
        have l3 := l2.cut he
        have T3 := l2.tab.set (st' := st') (past' := pl')
        have gp : (setTab K m.length (m.length + 1) ts st' pl' m2)[pi]? = some (.lst (pl.map fun s => .str (sTx ts s))) := by
          have := l2.ge
          rw [setTab_get (by omega) (by omega)]; exact l2.pst
        have hl3 : (setTab K m.length (m.length + 1) ts st' pl' m2).length = m2.length := setTab_length
        rw [← hl3] at l3
        have hlj : pl'.length ≤ ds.length + 1 := by rw [hp1, List.length_take]; omega
        generalize setTab K m.length (m.length + 1) ts st' pl' m2 = m3 at *
        refine ⟨m.length, m.length + 1, ts, st', pl', rfl, T3, l3.wf, pl.length, by simp [lenOf, seqOf, tupOf, lstOf, gp], j, rfl, .str (sTx ts st'), ?_, _, _, rfl, rfl, .inl ⟨by simp, pl.length, by simp [lenOf, seqOf, tupOf, lstOf, gp], j, rfl, pl.map fun s => .str (sTx ts s), by simp only [lsqOf, lstOf, gp], ?_⟩⟩
        · rw [ix_lst gp]
          unfold atI ixN
          rw [if_pos (by omega), if_pos (by rw [List.length_map]; omega), show ((pl.length : Int) - j).toNat = pl.length - j by omega]
          simp [hp2]
        · rw [show ((pl.length : Int) - j) = ((pl.length - j : Nat) : Int) by omega, cut_take, ← List.map_take, ← hp1]
          exact hT _ _ _ _ _ _ _ _ (l3.mono (by omega)) hlj
    · refine .inl ⟨h0, ?_⟩
      by_cases h3 : r < 3
      · refine .inr ⟨h3, i1, _, _, _, _, _, rfl, T1, trivial, _, len_tI _, ?_⟩
        by_cases h1r : 1 < st.run.length
        · exact .inr ⟨by omega, hS h1r⟩
        · exact .inl ⟨by omega, hG⟩
      · exact .inl ⟨by omega, hG⟩
def sp_law (K : PySem.W.Frag) : DRs := fun ds m R => ∃ ns : List Int, ds = [.fls (ns.map .int)] ∧ ns.length ≤ 63 ∧ hasT (tbP K "place_of") m ∧ hasT (tbP K "require_pieces") m ∧ R (.bl true) m
theorem hp_law (K : PySem.W.Frag) : ∀ ds m R, sp_law K ds m R → T_law K (sp__law_filled K) (sp__law_right K) (endsD m R) (startD ["script", "at", "pot", "turn"] ds) m := by
  rintro ds m R ⟨ns, rfl, hn, ht, hr, h⟩
  simp [T_law, startD]
  refine ⟨ns.length, by simp [lenOf, seqOf], ⟨by split <;> split <;> omega, by split <;> split <;> omega⟩, ?_⟩
  have hj : (if 1 < if (ns.length : Int) < 4 then (ns.length : Int) else 4 then if (ns.length : Int) < 4 then (ns.length : Int) else 4 else 1).toNat ≤ 4 := by split <;> split <;> omega
  generalize (if 1 < if (ns.length : Int) < 4 then (ns.length : Int) else 4 then if (ns.length : Int) < 4 then (ns.length : Int) else 4 else 1).toNat = j at hj ⊢
  unfold rngD
  refine forL_O (c := fun k : Nat => D.int (0 + (k : Int))) (I := fun done rest δ m' => (∀ x ∈ rest, x < 4) ∧ (∃ a b c, δ = [some (.fls (ns.map .int)), a, b, c]) ∧ ∃ tl, m' = m ++ tl) (fun _ _ _ _ _ => trivial) (fun ds δ m' ⟨h1, ⟨a, b, c, h2⟩, tl, h3⟩ => ?_) (fun ds x xs δ m' ⟨h1, ⟨a, b, c, h2⟩, tl, h3⟩ N hN => ?_) [] _ _ _ ⟨fun x hx => by have := List.mem_range.mp hx; omega, ⟨_, _, _, rfl⟩, [], by simp⟩
  · subst h2 h3
    exact Fin.drop (.cl rfl) h
  · subst h2 h3
    have hx := h1 x List.mem_cons_self
    have e0 : (0 : Int) + (x : Int) = (x : Int) := by omega
    simp
    refine ⟨ns, x, rfl, by omega, fun v pb => ?_⟩
    have ht1 := hasT_app (tl := tl) ht
    have hr1 := hasT_app (tl := tl) hr
    have hN2 : ∀ a b c (v : Pv), N [some (.fls (ns.map .int)), a, b, c] ((m ++ tl) ++ [potO v]) := fun a b c v => hN _ _ ⟨fun y hy => h1 y (List.mem_cons_of_mem _ hy), ⟨_, _, _, rfl⟩, tl ++ [potO v], by rw [List.append_assoc]⟩
    generalize m ++ tl = m1 at *
    refine forL_O (c := fun k : Nat => D.int (0 + (k : Int))) (I := fun done rest δ m' => done.length + rest.length = 4 ∧ (∃ c, δ = [some (.fls (ns.map .int)), some (.int x), some (.ref m1.length), c]) ∧ ∃ v : Pv, PB (200 * done.length) v ∧ m' = m1 ++ [potO v]) (fun _ _ _ _ _ => trivial) (fun es δ m' ⟨h1, ⟨c, h2⟩, v, p, h3⟩ => ?_) (fun es y ys δ m' ⟨h1, ⟨c, h2⟩, v, p, h3⟩ N' hN' => ?_) [] (List.range 4) _ _ ⟨by simp, ⟨_, rfl⟩, v, pb, rfl⟩
    · subst h2 h3
      exact hN2 _ _ _ _
    · subst h2 h3
      simp only [List.length_cons] at h1
      simp
      refine ⟨m1.length, 200 * es.length, v, rfl, by simp, p, by omega, hasT_app ht1, hasT_app hr1, fun v' p' => .inr ⟨rfl, ?_⟩⟩
      rw [app_set0]
      exact hN' _ _ ⟨by rw [List.length_append, List.length_singleton]; omega, ⟨_, rfl⟩, v', by rw [List.length_append, List.length_singleton, Nat.mul_add]; exact p', rfl⟩
end FN
set_option Elab.async false
set_option linter.all false
set_option maxRecDepth 100000
set_option maxHeartbeats 4000000
namespace W82
open PySem PySem.Spec PyProof.Rows L2 SlX DL FN
section
variable {w : World} {K : PySem.W.Frag} {mg : Str → Option Value} {base h : Heap} (k : Kn K mg base h)
include k
theorem ok_is_integer : FnD PG w K mg base 1 (ga K "is_integer") (sp_is_integer K) :=
  wk_is_integer k  (by intro ds m R h; repeat (first | (obtain ⟨rfl, _⟩ := h; rfl) | (obtain ⟨_, h⟩ := h))) (hp_is_integer K)
theorem ok_is_between : FnD PG w K mg base 2 (ga K "is_between") (sp_is_between K) :=
  wk_is_between k (gd_fn (ok_is_integer k) k.kp_is_integer) (by intro ds m R h; repeat (first | (obtain ⟨rfl, _⟩ := h; rfl) | (obtain ⟨_, h⟩ := h))) (hp_is_between K)
theorem ok_is_old_name : FnD PG w K mg base 2 (ga K "is_old_name") (sp_is_old_name K) :=
  wk_is_old_name k (gd_fn (ok_is_integer k) k.kp_is_integer) (by intro ds m R h; repeat (first | (obtain ⟨rfl, _⟩ := h; rfl) | (obtain ⟨_, h⟩ := h))) (hp_is_old_name K)
theorem ok_are_old_names : FnD PG w K mg base 3 (ga K "are_old_names") (sp_are_old_names K) :=
  wk_are_old_names k (gd_fn (ok_is_old_name k) k.kp_is_old_name) (by intro ds m R h; repeat (first | (obtain ⟨rfl, _⟩ := h; rfl) | (obtain ⟨_, h⟩ := h))) (hp_are_old_names K)
theorem ok_are_threads : FnD PG w K mg base 4 (ga K "are_threads") (sp_are_threads K) :=
  wk_are_threads k (gd_fn (ok_are_old_names k) k.kp_are_old_names) (by intro ds m R h; repeat (first | (obtain ⟨rfl, _⟩ := h; rfl) | (obtain ⟨_, h⟩ := h))) (hp_are_threads K)
theorem ok_require_threads : FnD PG w K mg base 5 (ga K "require_threads") (sp_require_threads K) :=
  wk_require_threads k (gd_fn (ok_are_threads k) k.kp_are_threads) (by intro ds m R h; repeat (first | (obtain ⟨rfl, _⟩ := h; rfl) | (obtain ⟨_, h⟩ := h))) (hp_require_threads K)
theorem ok_are_blocks : FnD PG w K mg base 5 (ga K "are_blocks") (sp_are_blocks K) :=
  wk_are_blocks k (gd_fn (ok_are_threads k) k.kp_are_threads) (by intro ds m R h; repeat (first | (obtain ⟨rfl, _⟩ := h; rfl) | (obtain ⟨_, h⟩ := h))) (hp_are_blocks K)
theorem ok_Round___init__ : FnD PG w K mg base 6 (ma K (ga K "Round") "__init__") (sp_Round___init__ K) :=
  wk_Round___init__ k (gd_fn (ok_are_blocks k) k.kp_are_blocks) (by intro ds m R h; repeat (first | (obtain ⟨rfl, _⟩ := h; rfl) | (obtain ⟨_, h⟩ := h))) (hp_Round___init__ K)
theorem gl_Round : GD PG w K mg base 7 (ga K "Round") (mk_Round K) :=
  (gd_makeS k.mk_Round (ok_Round___init__ k)).fin (hm_Round K)
theorem ok_Round___eq__ : FnD PG w K mg base 1 (ma K (ga K "Round") "__eq__") (sp_Round___eq__ K) :=
  wk_Round___eq__ k  (by intro ds m R h; repeat (first | (obtain ⟨rfl, _⟩ := h; rfl) | (obtain ⟨_, h⟩ := h))) (hp_Round___eq__ K)
theorem ok_Round___str__ : FnD PG w K mg base 1 (ma K (ga K "Round") "__str__") (sp_Round___str__ K) :=
  wk_Round___str__ k  (by intro ds m R h; repeat (first | (obtain ⟨rfl, _⟩ := h; rfl) | (obtain ⟨_, h⟩ := h))) (hp_Round___str__ K)
theorem ok_place_of : FnD PG w K mg base 1 (ga K "place_of") (sp_place_of K) :=
  wk_place_of k  (by intro ds m R h; repeat (first | (obtain ⟨rfl, _⟩ := h; rfl) | (obtain ⟨_, h⟩ := h))) (hp_place_of K)
theorem ok_seen_by : FnD PG w K mg base 2 (ga K "seen_by") (sp_seen_by K) :=
  wk_seen_by k (gd_fn (ok_place_of k) k.kp_place_of) (by intro ds m R h; repeat (first | (obtain ⟨rfl, _⟩ := h; rfl) | (obtain ⟨_, h⟩ := h))) (hp_seen_by K)
theorem ok_are_rounds : FnD PG w K mg base 1 (ga K "are_rounds") (sp_are_rounds K) :=
  wk_are_rounds k  (by intro ds m R h; repeat (first | (obtain ⟨rfl, _⟩ := h; rfl) | (obtain ⟨_, h⟩ := h))) (hp_are_rounds K)
theorem ok_Run___init__ : FnD PG w K mg base 6 (ma K (ga K "Run") "__init__") (sp_Run___init__ K) :=
  wk_Run___init__ k (gd_fn (ok_require_threads k) k.kp_require_threads) (gd_fn (ok_are_rounds k) k.kp_are_rounds) (by intro ds m R h; repeat (first | (obtain ⟨rfl, _⟩ := h; rfl) | (obtain ⟨_, h⟩ := h))) (hp_Run___init__ K)
theorem gl_Run : GD PG w K mg base 7 (ga K "Run") (mk_Run K) :=
  (gd_makeS k.mk_Run (ok_Run___init__ k)).fin (hm_Run K)
theorem ok_Run___getitem__ : FnD PG w K mg base 3 (ma K (ga K "Run") "__getitem__") (sp_Run___getitem__ K) :=
  wk_Run___getitem__ k (gd_fn (ok_is_between k) k.kp_is_between) (by intro ds m R h; repeat (first | (obtain ⟨rfl, _⟩ := h; rfl) | (obtain ⟨_, h⟩ := h))) (hp_Run___getitem__ K)
theorem ok_Run___len__ : FnD PG w K mg base 1 (ma K (ga K "Run") "__len__") (sp_Run___len__ K) :=
  wk_Run___len__ k  (by intro ds m R h; repeat (first | (obtain ⟨rfl, _⟩ := h; rfl) | (obtain ⟨_, h⟩ := h))) (hp_Run___len__ K)
theorem ok_Run___eq__ : FnD PG w K mg base 3 (ma K (ga K "Run") "__eq__") (sp_Run___eq__ K) :=
  wk_Run___eq__ k (fun C xs ⟨bs, e⟩ => by injection e with e1 e2; subst e1 e2; exact ⟨_, _, k.eq_Round, ok_Round___eq__ k, bs, rfl, rfl⟩) (by intro ds m R h; repeat (first | (obtain ⟨rfl, _⟩ := h; rfl) | (obtain ⟨_, h⟩ := h))) (hp_Run___eq__ K)
theorem ok_require_run : FnD PG w K mg base 1 (ga K "require_run") (sp_require_run K) :=
  wk_require_run k  (by intro ds m R h; repeat (first | (obtain ⟨rfl, _⟩ := h; rfl) | (obtain ⟨_, h⟩ := h))) (hp_require_run K)
theorem ok_Seat___init__ : FnD PG w K mg base 1 (ma K (ga K "Seat") "__init__") (sp_Seat___init__ K) :=
  wk_Seat___init__ k  (by intro ds m R h; repeat (first | (obtain ⟨rfl, _⟩ := h; rfl) | (obtain ⟨_, h⟩ := h))) (hp_Seat___init__ K)
theorem gl_Seat : GD PG w K mg base 2 (ga K "Seat") (mk_Seat K) :=
  (gd_makeS k.mk_Seat (ok_Seat___init__ k)).fin (hm_Seat K)
theorem ok_Seat_greatest_name : FnD PG w K mg base 1 (ma K (ga K "Seat") "greatest_name") (sp_Seat_greatest_name K) :=
  wk_Seat_greatest_name k  (by intro ds m R h; repeat (first | (obtain ⟨rfl, _⟩ := h; rfl) | (obtain ⟨_, h⟩ := h))) (hp_Seat_greatest_name K)
theorem ok_Seat_next_seat : FnD PG w K mg base 3 (ma K (ga K "Seat") "next_seat") (sp_Seat_next_seat K) :=
  wk_Seat_next_seat k (gl_Seat k) (by intro ds m R h; repeat (first | (obtain ⟨rfl, _⟩ := h; rfl) | (obtain ⟨_, h⟩ := h))) (hp_Seat_next_seat K)
theorem ok_first_seats : FnD PG w K mg base 3 (ga K "first_seats") (sp_first_seats K) :=
  wk_first_seats k (gl_Seat k) (by intro ds m R h; repeat (first | (obtain ⟨rfl, _⟩ := h; rfl) | (obtain ⟨_, h⟩ := h))) (hp_first_seats K)
theorem ok_seats_behind : FnD PG w K mg base 4 (ga K "seats_behind") (sp_seats_behind K) :=
  wk_seats_behind k (gd_fn (ok_seen_by k) k.kp_seen_by) (gd_fn (ok_Seat_greatest_name k) k.kp_Seat_greatest_name) (gd_fn (ok_Seat_next_seat k) k.kp_Seat_next_seat) (by intro ds m R h; repeat (first | (obtain ⟨rfl, _⟩ := h; rfl) | (obtain ⟨_, h⟩ := h))) (hp_seats_behind K)
theorem ok_Standing___init__ : FnD PG w K mg base 1 (ma K (ga K "Standing") "__init__") (sp_Standing___init__ K) :=
  wk_Standing___init__ k  (by intro ds m R h; repeat (first | (obtain ⟨rfl, _⟩ := h; rfl) | (obtain ⟨_, h⟩ := h))) (hp_Standing___init__ K)
theorem gl_Standing : GD PG w K mg base 2 (ga K "Standing") (mk_Standing K) :=
  (gd_makeS k.mk_Standing (ok_Standing___init__ k)).fin (hm_Standing K)
theorem ok_is_waiting : FnD PG w K mg base 1 (ga K "is_waiting") (sp_is_waiting K) :=
  wk_is_waiting k  (by intro ds m R h; repeat (first | (obtain ⟨rfl, _⟩ := h; rfl) | (obtain ⟨_, h⟩ := h))) (hp_is_waiting K)
theorem ok_Table___init__ : FnD PG w K mg base 8 (ma K (ga K "Table") "__init__") (sp_Table___init__ K) :=
  wk_Table___init__ k (gd_fn (ok_require_threads k) k.kp_require_threads) (gd_fn (ok_first_seats k) k.kp_first_seats) (gl_Run k) (by intro ds m R h; repeat (first | (obtain ⟨rfl, _⟩ := h; rfl) | (obtain ⟨_, h⟩ := h))) (hp_Table___init__ K)
theorem gl_Table : GD PG w K mg base 9 (ga K "Table") (mk_Table K) :=
  (gd_makeI k.mk_Table (ok_Table___init__ k)).fin (hm_Table K)
theorem ok_Table_threads : FnD PG w K mg base 1 (prA K "Table" "threads") (sp_Table_threads K) :=
  wk_Table_threads k  (by intro ds m R h; repeat (first | (obtain ⟨rfl, _⟩ := h; rfl) | (obtain ⟨_, h⟩ := h))) (hp_Table_threads K)
theorem ok_Table_running : FnD PG w K mg base 1 (prA K "Table" "running") (sp_Table_running K) :=
  wk_Table_running k  (by intro ds m R h; repeat (first | (obtain ⟨rfl, _⟩ := h; rfl) | (obtain ⟨_, h⟩ := h))) (hp_Table_running K)
theorem ok_Table_names : FnD PG w K mg base 1 (prA K "Table" "names") (sp_Table_names K) :=
  wk_Table_names k  (by intro ds m R h; repeat (first | (obtain ⟨rfl, _⟩ := h; rfl) | (obtain ⟨_, h⟩ := h))) (hp_Table_names K)
theorem ok_Table_places : FnD PG w K mg base 1 (prA K "Table" "places") (sp_Table_places K) :=
  wk_Table_places k  (by intro ds m R h; repeat (first | (obtain ⟨rfl, _⟩ := h; rfl) | (obtain ⟨_, h⟩ := h))) (hp_Table_places K)
theorem ok_Table_run : FnD PG w K mg base 1 (prA K "Table" "run") (sp_Table_run K) :=
  wk_Table_run k  (by intro ds m R h; repeat (first | (obtain ⟨rfl, _⟩ := h; rfl) | (obtain ⟨_, h⟩ := h))) (hp_Table_run K)
theorem ok_Table_keep_now : FnD PG w K mg base 3 (ma K (ga K "Table") "keep_now") (sp_Table_keep_now K) :=
  wk_Table_keep_now k (gl_Standing k) (by intro ds m R h; repeat (first | (obtain ⟨rfl, _⟩ := h; rfl) | (obtain ⟨_, h⟩ := h))) (hp_Table_keep_now K)
theorem ok_Table_go : FnD PG w K mg base 8 (ma K (ga K "Table") "go") (sp_Table_go K) :=
  wk_Table_go k (gd_fn (ok_Table_keep_now k) k.kp_Table_keep_now) (gl_Round k) (gd_fn (ok_seats_behind k) k.kp_seats_behind) (gl_Run k) (by intro ds m R h; repeat (first | (obtain ⟨rfl, _⟩ := h; rfl) | (obtain ⟨_, h⟩ := h))) (hp_Table_go K)
theorem ok_Table_stop : FnD PG w K mg base 4 (ma K (ga K "Table") "stop") (sp_Table_stop K) :=
  wk_Table_stop k (gd_fn (ok_is_old_name k) k.kp_is_old_name) (gd_fn (ok_Table_keep_now k) k.kp_Table_keep_now) (by intro ds m R h; repeat (first | (obtain ⟨rfl, _⟩ := h; rfl) | (obtain ⟨_, h⟩ := h))) (hp_Table_stop K)
theorem ok_Table_finish {fd : FuncData} (F : FdA K (dfM "Table" "finish" "Table.finish" (mthOf PG 40 9) [("joint", .bl true)]) fd) : FnOk PG w K mg base CX0 9 (ma K (ga K "Table") "finish") fd ["self", "joint"] (spD K (sp_Table_finish K)) :=
  wk_Table_finish k F (gd_fn (ok_is_waiting k) k.kp_is_waiting) (gd_fn (ok_Table_go k) k.kp_Table_go) (gl_Round k) (by intro ds m R h; repeat (first | (obtain ⟨rfl, _⟩ := h; rfl) | (obtain ⟨_, h⟩ := h))) (hp_Table_finish K)
theorem kb_Table_finish {fd : FuncData} (F : FdA K (dfM "Table" "finish" "Table.finish" (mthOf PG 40 9) [("joint", .bl true)]) fd) : KBn K fd ["self", "joint"] 1 ["joint"] (fun us ws => us ++ ws) (fun vs zs => vs ++ zs) := by
  obtain ⟨mv, h⟩ := FunD.kbinds0 F (ps := ["self", "joint"]) 1 ["joint"] [] (fun us _ ws => us ++ ws) (by intro z; cases z) (by intro q hq; cases hq) (fun r1 _ r3 => r1.append r3) (fun _ _ _ _ _ _ us mv ws l1 l2 l3 => match us, mv, ws, l1, l2, l3 with | [_], [], [_], _, _, _ => rfl)
  exact h
theorem ok_Table_undo {fd : FuncData} (F : FdA K (dfM "Table" "undo" "Table.undo" (mthOf PG 40 10) [("many", .int 1)]) fd) : FnOk PG w K mg base CX0 2 (ma K (ga K "Table") "undo") fd ["self", "many"] (spD K (sp_Table_undo K)) :=
  wk_Table_undo k F (gd_fn (ok_is_integer k) k.kp_is_integer) (by intro ds m R h; repeat (first | (obtain ⟨rfl, _⟩ := h; rfl) | (obtain ⟨_, h⟩ := h))) (hp_Table_undo K)
theorem kb_Table_undo {fd : FuncData} (F : FdA K (dfM "Table" "undo" "Table.undo" (mthOf PG 40 10) [("many", .int 1)]) fd) : KBn K fd ["self", "many"] 1 ["many"] (fun us ws => us ++ ws) (fun vs zs => vs ++ zs) := by
  obtain ⟨mv, h⟩ := FunD.kbinds0 F (ps := ["self", "many"]) 1 ["many"] [] (fun us _ ws => us ++ ws) (by intro z; cases z) (by intro q hq; cases hq) (fun r1 _ r3 => r1.append r3) (fun _ _ _ _ _ _ us mv ws l1 l2 l3 => match us, mv, ws, l1, l2, l3 with | [_], [], [_], _, _, _ => rfl)
  exact h
theorem gd_undo0 : GD PG w K mg base 2 (ma K (ga K "Table") "undo") (sp_Table_undo0 K) := by
  obtain ⟨fd, F⟩ := k.c.d 54
  obtain ⟨ds, rv, hb⟩ := FunD.binds0 F (ps := ["self", "many"]) 1 (by intro z; cases z) rfl (fun _ _ _ _ _ _ us ks l1 l2 => match us, ks, l1, l2 with | [_], [_], _, _ => ⟨_, _, _, _, _, _, rfl, rfl, rfl⟩)
  refine gd_fn (FnR.imp ((ok_Table_undo k F).raw hb rv) fun vs H Q E h => ?_) k.kp_Table_undo
  obtain ⟨F1, G, E', m, ds, R, rl, rs, ⟨n, e, q⟩, c⟩ := h
  subst e
  exact ⟨F1, G, E', m, _, R, rl, rs.append (.cons (.int 1) .nil), q, c⟩
theorem ok_Table_twin : FnD PG w K mg base 10 (ma K (ga K "Table") "twin") (sp_Table_twin K) :=
  wk_Table_twin k (gl_Table k) (by intro ds m R h; repeat (first | (obtain ⟨rfl, _⟩ := h; rfl) | (obtain ⟨_, h⟩ := h))) (hp_Table_twin K)
theorem ok_Table___bool__ : FnD PG w K mg base 1 (ma K (ga K "Table") "__bool__") (sp_Table___bool__ K) :=
  wk_Table___bool__ k  (by intro ds m R h; repeat (first | (obtain ⟨rfl, _⟩ := h; rfl) | (obtain ⟨_, h⟩ := h))) (hp_Table___bool__ K)
theorem ok_Table___len__ : FnD PG w K mg base 1 (ma K (ga K "Table") "__len__") (sp_Table___len__ K) :=
  wk_Table___len__ k  (by intro ds m R h; repeat (first | (obtain ⟨rfl, _⟩ := h; rfl) | (obtain ⟨_, h⟩ := h))) (hp_Table___len__ K)
theorem ok_Table___eq__ : FnD PG w K mg base 4 (ma K (ga K "Table") "__eq__") (sp_Table___eq__ K) :=
  wk_Table___eq__ k (ok_Run___eq__ k) (by intro ds m R h; repeat (first | (obtain ⟨rfl, _⟩ := h; rfl) | (obtain ⟨_, h⟩ := h))) (hp_Table___eq__ K)
theorem ok_Table___str__ : FnD PG w K mg base 1 (ma K (ga K "Table") "__str__") (sp_Table___str__ K) :=
  wk_Table___str__ k  (by intro ds m R h; repeat (first | (obtain ⟨rfl, _⟩ := h; rfl) | (obtain ⟨_, h⟩ := h))) (hp_Table___str__ K)
theorem ok_is_number_text : FnD PG w K mg base 1 (ga K "is_number_text") (sp_is_number_text K) :=
  wk_is_number_text k  (by intro ds m R h; repeat (first | (obtain ⟨rfl, _⟩ := h; rfl) | (obtain ⟨_, h⟩ := h))) (hp_is_number_text K)
theorem ok_are_number_texts : FnD PG w K mg base 2 (ga K "are_number_texts") (sp_are_number_texts K) :=
  wk_are_number_texts k (gd_fn (ok_is_number_text k) k.kp_is_number_text) (by intro ds m R h; repeat (first | (obtain ⟨rfl, _⟩ := h; rfl) | (obtain ⟨_, h⟩ := h))) (hp_are_number_texts K)
theorem ok_numbers_in : FnD PG w K mg base 1 (ga K "numbers_in") (sp_numbers_in K) :=
  wk_numbers_in k  (by intro ds m R h; repeat (first | (obtain ⟨rfl, _⟩ := h; rfl) | (obtain ⟨_, h⟩ := h))) (hp_numbers_in K)
theorem ok_names_text : FnD PG w K mg base 1 (ga K "names_text") (sp_names_text K) :=
  wk_names_text k  (by intro ds m R h; repeat (first | (obtain ⟨rfl, _⟩ := h; rfl) | (obtain ⟨_, h⟩ := h))) (hp_names_text K)
theorem ok_run_text : FnD PG w K mg base 4 (ga K "run_text") (sp_run_text K) :=
  wk_run_text k (ok_Round___str__ k) (gd_fn (ok_names_text k) k.kp_names_text) (by intro ds m R h; repeat (first | (obtain ⟨rfl, _⟩ := h; rfl) | (obtain ⟨_, h⟩ := h))) (hp_run_text K)
theorem ok_write_run : FnD PG w K mg base 5 (ga K "write_run") (sp_write_run K) :=
  wk_write_run k (gd_fn (ok_require_run k) k.kp_require_run) (gd_fn (ok_run_text k) k.kp_run_text) (by intro ds m R h; repeat (first | (obtain ⟨rfl, _⟩ := h; rfl) | (obtain ⟨_, h⟩ := h))) (hp_write_run K)
theorem ok_require_text : FnD PG w K mg base 1 (ga K "require_text") (sp_require_text K) :=
  wk_require_text k  (by intro ds m R h; repeat (first | (obtain ⟨rfl, _⟩ := h; rfl) | (obtain ⟨_, h⟩ := h))) (hp_require_text K)
theorem ok_require_pieces : FnD PG w K mg base 1 (ga K "require_pieces") (sp_require_pieces K) :=
  wk_require_pieces k  (by intro ds m R h; repeat (first | (obtain ⟨rfl, _⟩ := h; rfl) | (obtain ⟨_, h⟩ := h))) (hp_require_pieces K)
theorem ok_is_round_text : FnD PG w K mg base 3 (ga K "is_round_text") (sp_is_round_text K) :=
  wk_is_round_text k (gd_fn (ok_are_number_texts k) k.kp_are_number_texts) (by intro ds m R h; repeat (first | (obtain ⟨rfl, _⟩ := h; rfl) | (obtain ⟨_, h⟩ := h))) (hp_is_round_text K)
theorem ok_made_round : FnD PG w K mg base 8 (ga K "made_round") (sp_made_round K) :=
  wk_made_round k (gl_Round k) (gd_fn (ok_numbers_in k) k.kp_numbers_in) (by intro ds m R h; repeat (first | (obtain ⟨rfl, _⟩ := h; rfl) | (obtain ⟨_, h⟩ := h))) (hp_made_round K)
theorem ok_require_found : FnD PG w K mg base 1 (ga K "require_found") (sp_require_found K) :=
  wk_require_found k  (by intro ds m R h; repeat (first | (obtain ⟨rfl, _⟩ := h; rfl) | (obtain ⟨_, h⟩ := h))) (hp_require_found K)
theorem ok_made_run : FnD PG w K mg base 8 (ga K "made_run") (sp_made_run K) :=
  wk_made_run k (gl_Run k) (by intro ds m R h; repeat (first | (obtain ⟨rfl, _⟩ := h; rfl) | (obtain ⟨_, h⟩ := h))) (hp_made_run K)
theorem ok_read_run : FnD PG w K mg base 9 (ga K "read_run") (sp_read_run K) :=
  wk_read_run k (gd_fn (ok_require_text k) k.kp_require_text) (gd_fn (ok_are_number_texts k) k.kp_are_number_texts) (gd_fn (ok_require_pieces k) k.kp_require_pieces) (gd_fn (ok_numbers_in k) k.kp_numbers_in) (gd_fn (ok_are_threads k) k.kp_are_threads) (gl_Run k) (gd_fn (ok_is_round_text k) k.kp_is_round_text) (gd_fn (ok_made_round k) k.kp_made_round) (gd_fn (ok_made_run k) k.kp_made_run) (gd_fn (ok_require_found k) k.kp_require_found) (by intro ds m R h; repeat (first | (obtain ⟨rfl, _⟩ := h; rfl) | (obtain ⟨_, h⟩ := h))) (hp_read_run K)
theorem ok__law_filled : FnD PG w K mg base 1 (ga K "_law_filled") (sp__law_filled K) :=
  wk__law_filled k  (by intro ds m R h; repeat (first | (obtain ⟨rfl, _⟩ := h; rfl) | (obtain ⟨_, h⟩ := h))) (hp__law_filled K)
theorem ok__law_dip : FnD PG w K mg base 1 (ga K "_law_dip") (sp__law_dip K) :=
  wk__law_dip k  (by intro ds m R h; repeat (first | (obtain ⟨rfl, _⟩ := h; rfl) | (obtain ⟨_, h⟩ := h))) (hp__law_dip K)
theorem ok__law_choose : FnD PG w K mg base 2 (ga K "_law_choose") (sp__law_choose K) :=
  wk__law_choose k (gd_fn (ok__law_dip k) k.kp__law_dip) (by intro ds m R h; repeat (first | (obtain ⟨rfl, _⟩ := h; rfl) | (obtain ⟨_, h⟩ := h))) (hp__law_choose K)
theorem ok__law_shuffled : FnD PG w K mg base 2 (ga K "_law_shuffled") (sp__law_shuffled K) :=
  wk__law_shuffled k (gd_fn (ok__law_dip k) k.kp__law_dip) (by intro ds m R h; repeat (first | (obtain ⟨rfl, _⟩ := h; rfl) | (obtain ⟨_, h⟩ := h))) (hp__law_shuffled K)
theorem ok__law_old_names : FnD PG w K mg base 3 (ga K "_law_old_names") (sp__law_old_names K) :=
  wk__law_old_names k (gd_fn (ok__law_choose k) k.kp__law_choose) (gd_fn (ok__law_dip k) k.kp__law_dip) (by intro ds m R h; repeat (first | (obtain ⟨rfl, _⟩ := h; rfl) | (obtain ⟨_, h⟩ := h))) (hp__law_old_names K)
theorem ok__law_blocks : FnD PG w K mg base 3 (ga K "_law_blocks") (sp__law_blocks K) :=
  wk__law_blocks k (gd_fn (ok__law_shuffled k) k.kp__law_shuffled) (gd_fn (ok__law_choose k) k.kp__law_choose) (gd_fn (ok__law_dip k) k.kp__law_dip) (by intro ds m R h; repeat (first | (obtain ⟨rfl, _⟩ := h; rfl) | (obtain ⟨_, h⟩ := h))) (hp__law_blocks K)
theorem ok__law_standing : FnG PG w K mg base 6 (ga K "_law_standing") (sp__law_standing K) :=
  wk__law_standing k (ok_Table_running k) (ok_Table_names k) (ok_Table_places k) (ok_Table_run k) (gd_fn (ok_write_run k) k.kp_write_run) (ok_Table___str__ k) (ok_Table___len__ k) (ok_Table___bool__ k) (by intro ds m R h; repeat (first | (obtain ⟨rfl, _⟩ := h; rfl) | (obtain ⟨_, h⟩ := h))) (hp__law_standing K)
theorem ok__law_replayed_right : FnD PG w K mg base 10 (ga K "_law_replayed_right") (sp__law_replayed_right K) :=
  wk__law_replayed_right k (ok_Table_run k) (gd_fn (ok_write_run k) k.kp_write_run) (gd_fn (ok_read_run k) k.kp_read_run) (ok_Run___eq__ k) (gl_Table k) (ok_Table_threads k) (ok_Run___len__ k) (gd_fn (ok_Table_go k) k.kp_Table_go) (ok_Run___getitem__ k) (ok_Table___len__ k) (ok_Table_running k) (ok_Table_names k) (ok_Table_places k) (by intro ds m R h; repeat (first | (obtain ⟨rfl, _⟩ := h; rfl) | (obtain ⟨_, h⟩ := h))) (hp__law_replayed_right K)
theorem ok__law_finished_right : FnG PG w K mg base 11 (ga K "_law_finished_right") (sp__law_finished_right K) := by
  obtain ⟨fd_Table_finish, F_Table_finish⟩ := k.c.d 53
  have A_Table_finish := ok_Table_finish (w := w) k F_Table_finish
  have B_Table_finish := kb_Table_finish k F_Table_finish
  obtain ⟨fd_Table_undo, F_Table_undo⟩ := k.c.d 54
  have A_Table_undo := ok_Table_undo (w := w) k F_Table_undo
  have B_Table_undo := kb_Table_undo k F_Table_undo
  exact wk__law_finished_right k (gd_fn (ok_Table_twin k) k.kp_Table_twin) (gd_fn (ok__law_choose k) k.kp__law_choose) (ok__law_standing k) (ok_Table___len__ k) (gd_fn (ok__law_replayed_right k) k.kp__law_replayed_right) (ok_Table_running k) (ok_Table___eq__ k) (gd_fn (ok_Table_go k) k.kp_Table_go) (gl_Round k) A_Table_finish B_Table_finish A_Table_undo B_Table_undo (by intro ds m R h; repeat (first | (obtain ⟨rfl, _⟩ := h; rfl) | (obtain ⟨_, h⟩ := h))) (hp__law_finished_right K)
theorem ok__law_right : FnG PG w K mg base 12 (ga K "_law_right") (sp__law_right K) := by
  obtain ⟨fd_Table_undo, F_Table_undo⟩ := k.c.d 54
  have A_Table_undo := ok_Table_undo (w := w) k F_Table_undo
  have B_Table_undo := kb_Table_undo k F_Table_undo
  exact wk__law_right k (gl_Table k) (gd_fn (ok__law_dip k) k.kp__law_dip) (gd_fn (ok__law_old_names k) k.kp__law_old_names) (ok__law_standing k) (ok_Table_running k) (gd_fn (ok_Table_stop k) k.kp_Table_stop) (gd_fn (ok__law_choose k) k.kp__law_choose) (ok_Table___len__ k) (gd_fn (ok_Table_go k) k.kp_Table_go) (gl_Round k) (gd_fn (ok__law_blocks k) k.kp__law_blocks) (gd_fn (ok__law_replayed_right k) k.kp__law_replayed_right) (ok__law_finished_right k) (gd_undo0 k) (ok_Table_threads k) (ok_Table___eq__ k) A_Table_undo B_Table_undo (by intro ds m R h; repeat (first | (obtain ⟨rfl, _⟩ := h; rfl) | (obtain ⟨_, h⟩ := h))) (hp__law_right K)
theorem ok_law {fd : FuncData} (F : FdA K (dfG "law" (topOf PG 71)) fd) : FnOkG PG w K mg base 13 (ga K "law") fd ["script"] (sp_law K) :=
  wk_law k F (gd_fn (ok__law_filled k) k.kp__law_filled) (ok__law_right k) (by intro ds m R h; repeat (first | (obtain ⟨rfl, _⟩ := h; rfl) | (obtain ⟨_, h⟩ := h))) (hp_law K)
end
end W82
set_option Elab.async false
set_option linter.all false
set_option maxRecDepth 100000
set_option maxHeartbeats 4000000
/-! E6: where the law's def starts: the script's list, the tables of defs. -/
namespace DL
open PySem PySem.Spec PyProof.Rows L2 SlX
/-- the store at the law's start: the tables, each once -/
def muT (T : List Addr) : Mu := (T.eraseDups).map .tbl
theorem dedup_nodup : ∀ (n : Nat) (T : List Addr), T.length ≤ n → (T.eraseDups).Nodup
  | 0, T, h => by
    have : T = [] := List.length_eq_zero_iff.mp (by omega)
    subst this; simp
  | n + 1, [], _ => by simp
  | n + 1, x :: T, h => by
    rw [List.eraseDups_cons, List.nodup_cons]
    refine ⟨fun z => ?_, dedup_nodup n _ ?_⟩
    · rw [List.mem_eraseDups] at z
      have := (List.mem_filter.mp z).2
      simp at this
    · have := List.length_filter_le (fun y => !y == x) T
      simp only [List.length_cons] at h
      omega
theorem muT_has {T : List Addr} {P : Addr} (h : P ∈ T) : hasT P (muT T) := by
  have h2 : P ∈ T.eraseDups := List.mem_eraseDups.mpr h
  obtain ⟨i, hi, e⟩ := List.mem_iff_getElem.mp h2
  refine ⟨i, ?_⟩
  unfold muT
  rw [List.getElem?_map, List.getElem?_eq_getElem hi, e]
  rfl
theorem law_lift {K : PySem.W.Frag} {H : Hp} {T : List Addr} {a : Addr} {ns : List Int} {spec : DRs} (hT : ∀ P ∈ T, H P = some (.tbl #[])) (nT : ∀ P ∈ T, K.lookup P = none) (hS : SqL K H a (ns.map V.int))
    (h : spec [.fls (ns.map .int)] (muT T) fun d _ => d = .bl true) : liftC K spec [.ref a] H fun v _ => v = .bl true := by
  have nd : (T.eraseDups).Nodup := dedup_nodup _ T (Nat.le_refl _)
  have mT : ∀ {P}, P ∈ T.eraseDups → P ∈ T := fun h => List.mem_eraseDups.mp h
  have get : ∀ {i : Nat} {p : Addr × Addr}, ((T.eraseDups).map fun P => (P, P))[i]? = some p → p.1 ∈ T ∧ p.2 = p.1 ∧ (T.eraseDups)[i]? = some p.1 := fun {i p} e => by
    rw [List.getElem?_map] at e
    obtain ⟨P, hP, rfl⟩ := Option.map_eq_some_iff.mp e
    exact ⟨mT (List.mem_of_getElem? hP), rfl, hP⟩
  have hF : ∀ b, b ∉ T → (fun b => if b ∈ T then none else H b) b = H b := fun b hb => if_neg hb
  have haT : a ∈ T → ∃ o, K.lookup a = some o := fun ha => by
    rcases hS with h1 | ⟨o, its, n, e, _⟩
    · have e := hT a ha
      rcases h1 with h2 | ⟨o, h2⟩
      · rw [e] at h2; cases h2
      · rw [e] at h2; cases h2
    · exact ⟨_, e⟩
  have hS2 : SqL K (fun b => if b ∈ T then none else H b) a (ns.map V.int) := by
    by_cases ha : a ∈ T
    · obtain ⟨o, e⟩ := haT ha
      rw [nT a ha] at e
      cases e
    · rcases hS with h1 | h1
      · refine .inl ?_
        rcases h1 with h2 | ⟨o, h2⟩
        · exact .inl ((hF a ha).trans h2)
        · exact .inr ⟨o, (hF a ha).trans h2⟩
      · exact .inr h1
  have rI : ∀ (F : Hp) (E : Eta) (ns : List Int), Rps K F E (ns.map D.int) (ns.map V.int) := fun F E ns => by
    induction ns with
    | nil => exact .nil
    | cons n ns ih => exact .cons (.int n) ih
  refine ⟨fun b => if b ∈ T then none else H b, fun _ => none, (T.eraseDups).map fun P => (P, P), muT T, [.fls (ns.map .int)], fun d _ => d = .bl true, ⟨fun b o e => ?_, fun b o e => (nomatch e), fun b o e => (nomatch e), by simp [muT], fun i p mo e1 e2 => ?_, fun i p e => ?_, fun i j p q e1 e2 ne => ?_⟩, .cons (.fls hS2 (rI _ _ ns)) .nil, h, fun d m' F' E' H' v _ _ _ rp hd => ?_⟩
  · by_cases hb : b ∈ T
    · simp only [if_pos hb] at e; cases e
    · simp only [if_neg hb] at e; exact e
  · obtain ⟨g1, g2, g3⟩ := get e1
    unfold muT at e2
    rw [List.getElem?_map, g3] at e2
    cases e2
    exact ⟨rfl, g2, #[], hT _ g1, by simp [TriplesOk]⟩
  · obtain ⟨g1, g2, _⟩ := get e
    exact ⟨if_pos g1, by rw [g2]; exact if_pos g1, rfl, rfl⟩
  · obtain ⟨g1, g2, g3⟩ := get e1
    obtain ⟨k1, k2, k3⟩ := get e2
    have : p.1 ≠ q.1 := fun z => by
      rw [z] at g3
      exact ne ((List.getElem?_inj (List.getElem?_eq_some_iff.mp g3).1 nd).mp (g3.trans k3.symm))
    rw [g2, k2]
    exact ⟨this, this, this, this⟩
  · subst hd
    cases rp
    rfl
end DL
set_option Elab.async false
set_option linter.all false
set_option maxRecDepth 100000
set_option maxHeartbeats 0
namespace W82
open PySem PySem.Spec PyProof.Rows L2 SlX DL FN
abbrev LW : PySem.W.OpenLaw := PySem.Challenge.rw_fewnames_k82_whole_tables_replayed_from
theorem law_at {w : World} {mg : Str → Option Value} {fa' : Addr} {h : Heap} (Y : hk.says w h) (G : h.Ns mainGlobals mg) (hmg : mg ("law" : Str) = some (.ref fa')) : ∃ K : PySem.W.Frag, K.In h ∧ LawAtG LW w K 13 63 "script" mg fa' h := by
  obtain ⟨K, KX, c⟩ := Y
  obtain ⟨fd, F⟩ := c.d 37
  have e := hmg.symm.trans (He.glo_ok KX G (c.a 37))
  cases e
  have b := FunD.bindsA (ps := ["script"]) F fun _ _ _ _ _ _ us hl => match us, hl with | [_], _ => rfl
  refine ⟨K, KX, fd, tf.map (He.cT K), sp_law K, fun p hp => ?_, fun p hp => ?_, fun p hp => ?_, fun s v => b s [v] rfl, fun H a ns hl _ hH hS => ?_, fun base hb hg hT => ?_⟩
  · obtain ⟨q, hq, rfl⟩ := List.mem_map.mp hp
    exact c.empty q hq
  · obtain ⟨q, hq, rfl⟩ := List.mem_map.mp hp
    exact c.out q hq
  · obtain ⟨q, hq, rfl⟩ := List.mem_map.mp hp
    exact PySem.W.codeHd_of_K KX (c.hd q hq)
  · have m1 : ∀ x : Str, (x, none) ∈ tf → tbP K x ∈ (tf.map (He.cT K)).map (·.2) := fun x hx => List.mem_map.mpr ⟨_, List.mem_map.mpr ⟨_, hx, rfl⟩, rfl⟩
    refine law_lift (T := (tf.map (He.cT K)).map (·.2)) (fun P hP => ?_) (fun P hP => ?_) hS ⟨ns, rfl, hl, muT_has (m1 _ (by decide)), muT_has (m1 _ (by decide)), rfl⟩
    · obtain ⟨q, hq, rfl⟩ := List.mem_map.mp hP
      exact hH q hq
    · obtain ⟨q, hq, rfl⟩ := List.mem_map.mp hP
      obtain ⟨q', hq', rfl⟩ := List.mem_map.mp hq
      exact c.out q' hq'
  · exact ok_law (h := h) ⟨c, hb, hg, fun p hp => hT _ (List.mem_map.mpr ⟨p, hp, rfl⟩)⟩ F
end W82
open PySem PySem.W PySem.Calls PyProof.Rows
theorem PySem.Challenge.cw_fewnames_k82_whole_tables_replayed_from_holds : PySem.Challenge.rw_fewnames_k82_whole_tables_replayed_from.Holds := by
  w_on; o_law
  refine HandSHeadRun.head_any (r := OpenLaw.row PySem.Challenge.rw_fewnames_k82_whole_tables_replayed_from) (q := view (OpenLaw.row PySem.Challenge.rw_fewnames_k82_whole_tables_replayed_from).prog [71]) (H := W82.hk) (ob := W82.ob) (M := 8000) (loose := W82.names) (d := HandSHeadRun.topDef (OpenLaw.row PySem.Challenge.rw_fewnames_k82_whole_tables_replayed_from).prog 71) (kwd := []) W82.ob_eq
    (by kernel_rfl) (fun s => by kernel_rfl) W82.run (by kernel_rfl) (by kernel_rfl) (by kernel_rfl) (by rfl) (by first | assumption | decide +kernel) (by decide +kernel) ⟨rfl, rfl, rfl, rfl, rfl, by decide +kernel⟩ ?hw ?hc
  case hw => w_witness2
  case hc =>
    refine DL.walk_ofG (l := PySem.Challenge.rw_fewnames_k82_whole_tables_replayed_from) (n := 63) (k := 13) (x := "script") rfl (by decide) (by kernel_rfl) ⟨rfl, by decide, by decide⟩ ?F
    intro w mg fa h Y G hmg0
    have hmg : mg ("law" : PySem.Str) = some (.ref fa) := by
      have e : (HandSHeadRun.topDef (OpenLaw.row PySem.Challenge.rw_fewnames_k82_whole_tables_replayed_from).prog 71).name = ("law" : PySem.Str) := by kernel_rfl
      rw [← e]
      exact hmg0
    exact W82.law_at Y G hmg
