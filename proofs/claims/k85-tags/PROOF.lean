import PyProof.Rows.All
import Wide.All
import OpenK.AllK
import Wide.FinOn
import HandS.ForMost
import HandS.Defaults
import HandS.Exc
import HandS.ExcOwn
import HandS.WordsExc
import HandS.Walk
import HandS.HeadHook2
import HandS.CallSlots
import HandS.MakeKwOnly
import HandS.Style
import HandS.Conv
import HandS.TupAny
import HandS.IsInst
import HandS.TupMul
import HandS.TupLen
import HandS.WordsDict
import HandS.SortInts
import HandS.Replace
import HandS.Text
import PyProof.TupleOfStr
import KE.KDictDisplayH
import HandS.EndBits
import HandS.HeadEnd
import KE.KStateDown
import HandS.Head0
import HandS.Head1
import HandS.Head2
import HandS.HeadHook1
import PySem.Challenge.RW_turingbench_k85_whole_tags_cyclic_ones_c
section
set_option Elab.async false
set_option linter.all false
set_option maxRecDepth 100000
set_option maxHeartbeats 2000000
/-! PL: values as trees, slots, a small store; what a Python text does as a plain function. -/
namespace PL
open PySem PySem.Spec PyProof.Rows L2

/-- values -/
inductive D where
  | non | bl (b : Bool) | int (i : Int) | str (x : Str)
  | tup (xs : List D) | kt (xs : List D) | lst (xs : List D) | scr (ns : List Int)
  | ins (C : Str) (fs : List Str) (vs : List D)
  | dK (ks : List Key) (vs : List D) | dT (ks : List (List Key)) (vs : List D)
  | ref (n : Nat) | ty (n : String) | cls (C : Str)
/-- what may change -/
inductive Cell where
  | lst (xs : List D) | dK (kvs : List (Key × D)) | dT (kvs : List (List Key × D)) | ins (C : Str) (fs : List (Str × D))
inductive Sl where
  | no | d (d : D) | own (c : Cell)
abbrev PEnv := List Sl
abbrev Store := List Cell
structure S where
  env : PEnv
  st : Store
structure Exc where
  cls : Str
  fs : List (Str × D)
inductive Wv where
  | d (d : D) | nw (c : Cell)
inductive Res (α : Type) where
  | ok (a : α) (s : S) | err (x : Exc) (s : S) | stuck
/-- how a statement ends -/
inductive Fl where
  | nx (s : S) | rt (w : Wv) (s : S) | bk (s : S) | ct (s : S) | err (x : Exc) (s : S) | stuck

mutual
def Rep (K : PySem.W.Frag) (ι : List Addr) (P : Hp) : D → V → Prop
  | .non, v => v = .non
  | .bl b, v => v = .bl b
  | .int i, v => v = .int i
  | .str x, v => v = .str x
  | .tup xs, v => ∃ a vs, v = .ref a ∧ P a = some (.tup vs) ∧ Reps K ι P xs vs
  | .kt xs, v => ∃ a vs, v = .ref a ∧ SqT K P a vs ∧ Reps K ι P xs vs
  | .lst xs, v => ∃ a vs, v = .ref a ∧ P a = some (.lst vs) ∧ Reps K ι P xs vs
  | .scr ns, v => ∃ a, v = .ref a ∧ SqL K P a (ns.map V.int)
  | .ins C fs xs, v => ∃ a dx vs, v = .ref a ∧ P a = some (.ins (He.ga K C) dx (fs.zip vs)) ∧ fs.length = vs.length ∧ Reps K ι P xs vs
  | .dK ks xs, v => ∃ a vs, v = .ref a ∧ L2.Rd P a (.dK (ks.zip vs)) ∧ ks.length = vs.length ∧ Reps K ι P xs vs
  | .dT ks xs, v => ∃ a vs, v = .ref a ∧ L2.Rd P a (.dT (ks.zip vs)) ∧ ks.length = vs.length ∧ Reps K ι P xs vs
  | .ref n, v => ∃ a, v = .ref a ∧ ι[n]? = some a
  | .ty n, v => v = .ty n
  | .cls C, v => v = .ref (He.ga K C)
def Reps (K : PySem.W.Frag) (ι : List Addr) (P : Hp) : List D → List V → Prop
  | [], vs => vs = []
  | x :: xs, vs => ∃ v r, vs = v :: r ∧ Rep K ι P x v ∧ Reps K ι P xs r
end

def CellAt (K : PySem.W.Frag) (ι : List Addr) (P H : Hp) (a : Addr) : Cell → Prop
  | .lst xs => ∃ vs, H a = some (.lst vs) ∧ Reps K ι P xs vs
  | .dK kvs => ∃ vs, H a = some (.dK ((kvs.map (·.1)).zip vs)) ∧ Reps K ι P (kvs.map (·.2)) vs
  | .dT kvs => ∃ vs, H a = some (.dT ((kvs.map (·.1)).zip vs)) ∧ Reps K ι P (kvs.map (·.2)) vs
  | .ins C fs => ∃ dx vs, H a = some (.ins (He.ga K C) dx ((fs.map (·.1)).zip vs)) ∧ Reps K ι P (fs.map (·.2)) vs

def SlotRel (K : PySem.W.Frag) (Z : Hp) (ι : List Addr) (P H : Hp) (σ : L2.St) (i : Nat) : Sl → Prop
  | .no => True
  | .d d => ∃ v, σ[i]? = some (some v) ∧ Rep K ι P d v
  | .own c => ∃ a, σ[i]? = some (some (.ref a)) ∧ P a = none ∧ Z a = none ∧ a ∉ ι ∧ CellAt K ι P H a c

structure SRel (K : PySem.W.Frag) (Z : Hp) (ι : List Addr) (P H : Hp) (s : S) (σ : L2.St) : Prop where
  p : ∀ a o, P a = some o → H a = some o
  z : ∀ a o, Z a = some o → H a = some o
  nd : ι.Nodup
  ιz : ∀ a ∈ ι, Z a = none
  ιp : ∀ a ∈ ι, P a = none
  len : s.st.length = ι.length
  cells : ∀ (n : Nat) (c : Cell), s.st[n]? = some c → ∃ a, ι[n]? = some a ∧ CellAt K ι P H a c
  elen : s.env.length = σ.length
  env : ∀ (i : Nat) (sl : Sl), s.env[i]? = some sl → SlotRel K Z ι P H σ i sl
  sep : ∀ (i j : Nat) (a : Addr) (ci cj : Cell), s.env[i]? = some (.own ci) → s.env[j]? = some (.own cj) → σ[i]? = some (some (.ref a)) → σ[j]? = some (some (.ref a)) → i = j

/-- a slot of its own holds the object at a -/
def Mine (s : S) (σ : L2.St) (a : Addr) : Prop := ∃ (i : Nat) (c : Cell), s.env[i]? = some (.own c) ∧ σ[i]? = some (some (.ref a))

structure Ext (ι : List Addr) (P : Hp) (ι' : List Addr) (P' : Hp) : Prop where
  i : ∃ t, ι' = ι ++ t
  p : ∀ a o, P a = some o → P' a = some o

theorem Ext.refl {ι : List Addr} {P : Hp} : Ext ι P ι P := ⟨⟨[], by simp⟩, fun _ _ e => e⟩
theorem Ext.trans {ι ι' ι'' : List Addr} {P P' P'' : Hp} (h : Ext ι P ι' P') (h' : Ext ι' P' ι'' P'') : Ext ι P ι'' P'' := by
  obtain ⟨⟨t, rfl⟩, hp⟩ := h
  obtain ⟨⟨u, rfl⟩, hp'⟩ := h'
  exact ⟨⟨t ++ u, by simp⟩, fun a o e => hp' a o (hp a o e)⟩
theorem Ext.get {ι ι' : List Addr} {P P' : Hp} (h : Ext ι P ι' P') {n : Nat} {a : Addr} (e : ι[n]? = some a) : ι'[n]? = some a := by
  obtain ⟨⟨t, rfl⟩, _⟩ := h
  have hl : n < ι.length := (List.getElem?_eq_some_iff.mp e).1
  rw [List.getElem?_append_left hl]; exact e

/-- and what is protected is not touched -/
structure XZ (Z : Hp) (ι : List Addr) (P : Hp) (ι' : List Addr) (P' : Hp) : Prop where
  x : Ext ι P ι' P'
  z : ∀ a o, Z a = some o → P' a = P a
theorem XZ.refl {Z : Hp} {ι : List Addr} {P : Hp} : XZ Z ι P ι P := ⟨.refl, fun _ _ _ => rfl⟩
theorem XZ.trans {Z : Hp} {ι ι' ι'' : List Addr} {P P' P'' : Hp} (h : XZ Z ι P ι' P') (h' : XZ Z ι' P' ι'' P'') : XZ Z ι P ι'' P'' :=
  ⟨h.x.trans h'.x, fun a o e => (h'.z a o e).trans (h.z a o e)⟩

theorem Rd.mono {P P' : Hp} {a : Addr} {u : HO} (hp : ∀ a o, P a = some o → P' a = some o) (h : L2.Rd P a u) : L2.Rd P' a u := by
  rcases h with h | ⟨o, h⟩
  · exact .inl (hp _ _ h)
  · exact .inr ⟨o, hp _ _ h⟩
theorem SqT.mono {K : PySem.W.Frag} {P P' : Hp} {a : Addr} {xs : List V} (hp : ∀ a o, P a = some o → P' a = some o) (h : SqT K P a xs) : SqT K P' a xs := by
  rcases h with h | h
  · exact .inl (Rd.mono hp h)
  · exact .inr h
theorem SqL.mono {K : PySem.W.Frag} {P P' : Hp} {a : Addr} {xs : List V} (hp : ∀ a o, P a = some o → P' a = some o) (h : SqL K P a xs) : SqL K P' a xs := by
  rcases h with h | h
  · exact .inl (Rd.mono hp h)
  · exact .inr h

section
variable {K : PySem.W.Frag} {ι ι' : List Addr} {P P' : Hp}
mutual
theorem Rep.mono (x : Ext ι P ι' P') : ∀ (d : D) (v : V), Rep K ι P d v → Rep K ι' P' d v
  | .non, v, h => by unfold Rep at h ⊢; exact h
  | .bl b, v, h => by unfold Rep at h ⊢; exact h
  | .int i, v, h => by unfold Rep at h ⊢; exact h
  | .str z, v, h => by unfold Rep at h ⊢; exact h
  | .tup xs, v, h => by
    unfold Rep at h ⊢
    obtain ⟨a, vs, e, ht, hr⟩ := h
    exact ⟨a, vs, e, x.p _ _ ht, Reps.mono x xs vs hr⟩
  | .kt xs, v, h => by
    unfold Rep at h ⊢
    obtain ⟨a, vs, e, ht, hr⟩ := h
    exact ⟨a, vs, e, SqT.mono x.p ht, Reps.mono x xs vs hr⟩
  | .lst xs, v, h => by
    unfold Rep at h ⊢
    obtain ⟨a, vs, e, ht, hr⟩ := h
    exact ⟨a, vs, e, x.p _ _ ht, Reps.mono x xs vs hr⟩
  | .scr ns, v, h => by
    unfold Rep at h ⊢
    obtain ⟨a, e, ht⟩ := h
    exact ⟨a, e, SqL.mono x.p ht⟩
  | .ins C fs xs, v, h => by
    unfold Rep at h ⊢
    obtain ⟨a, dx, vs, e, ht, hl, hr⟩ := h
    exact ⟨a, dx, vs, e, x.p _ _ ht, hl, Reps.mono x xs vs hr⟩
  | .dK ks xs, v, h => by
    unfold Rep at h ⊢
    obtain ⟨a, vs, e, ht, hl, hr⟩ := h
    exact ⟨a, vs, e, Rd.mono x.p ht, hl, Reps.mono x xs vs hr⟩
  | .dT ks xs, v, h => by
    unfold Rep at h ⊢
    obtain ⟨a, vs, e, ht, hl, hr⟩ := h
    exact ⟨a, vs, e, Rd.mono x.p ht, hl, Reps.mono x xs vs hr⟩
  | .ref n, v, h => by
    unfold Rep at h ⊢
    obtain ⟨a, e, ha⟩ := h
    exact ⟨a, e, x.get ha⟩
  | .ty n, v, h => by unfold Rep at h ⊢; exact h
  | .cls C, v, h => by unfold Rep at h ⊢; exact h
theorem Reps.mono (x : Ext ι P ι' P') : ∀ (ds : List D) (vs : List V), Reps K ι P ds vs → Reps K ι' P' ds vs
  | [], vs, h => by unfold Reps at h ⊢; exact h
  | d :: ds, vs, h => by
    unfold Reps at h ⊢
    obtain ⟨v, r, e, h1, h2⟩ := h
    exact ⟨v, r, e, Rep.mono x d v h1, Reps.mono x ds r h2⟩
end
theorem Reps.length : ∀ {ds : List D} {vs : List V}, Reps K ι P ds vs → ds.length = vs.length
  | [], vs, h => by unfold Reps at h; subst h; rfl
  | d :: ds, vs, h => by
    unfold Reps at h
    obtain ⟨v, r, rfl, _, h2⟩ := h
    simp [Reps.length h2]
theorem Reps.nil : Reps K ι P [] [] := by unfold Reps; rfl
theorem Reps.cons {d : D} {v : V} {ds : List D} {vs : List V} (h : Rep K ι P d v) (t : Reps K ι P ds vs) : Reps K ι P (d :: ds) (v :: vs) := by
  unfold Reps; exact ⟨v, vs, rfl, h, t⟩
theorem Reps.uncons {d : D} {ds : List D} {vs : List V} (h : Reps K ι P (d :: ds) vs) : ∃ v r, vs = v :: r ∧ Rep K ι P d v ∧ Reps K ι P ds r := by
  unfold Reps at h; exact h
theorem Reps.app : ∀ {ds es : List D} {vs us : List V}, Reps K ι P ds vs → Reps K ι P es us → Reps K ι P (ds ++ es) (vs ++ us)
  | [], es, vs, us, h, h' => by unfold Reps at h; subst h; exact h'
  | d :: ds, es, vs, us, h, h' => by
    obtain ⟨v, r, rfl, h1, h2⟩ := h.uncons
    exact Reps.cons h1 (Reps.app h2 h')
theorem Reps.one {d : D} {v : V} (h : Rep K ι P d v) : Reps K ι P [d] [v] := Reps.cons h Reps.nil
theorem Reps.get : ∀ {ds : List D} {vs : List V} {i : Nat} {d : D}, Reps K ι P ds vs → ds[i]? = some d → ∃ v, vs[i]? = some v ∧ Rep K ι P d v
  | [], _, i, d, _, e => by simp at e
  | x :: ds, vs, 0, d, h, e => by
    obtain ⟨v, r, rfl, h1, h2⟩ := h.uncons
    simp at e; subst e
    exact ⟨v, by simp, h1⟩
  | x :: ds, vs, i + 1, d, h, e => by
    obtain ⟨v, r, rfl, h1, h2⟩ := h.uncons
    obtain ⟨u, hu, hr⟩ := Reps.get (i := i) h2 (by simpa using e)
    exact ⟨u, by simpa using hu, hr⟩
theorem Reps.drop : ∀ {ds : List D} {vs : List V} (n : Nat), Reps K ι P ds vs → Reps K ι P (ds.drop n) (vs.drop n)
  | ds, vs, 0, h => by simpa using h
  | [], vs, n + 1, h => by unfold Reps at h; subst h; simpa using Reps.nil
  | d :: ds, vs, n + 1, h => by
    obtain ⟨v, r, rfl, h1, h2⟩ := h.uncons
    simpa using Reps.drop n h2
theorem Reps.take : ∀ {ds : List D} {vs : List V} (n : Nat), Reps K ι P ds vs → Reps K ι P (ds.take n) (vs.take n)
  | ds, vs, 0, h => by simpa using Reps.nil
  | [], vs, n + 1, h => by unfold Reps at h; subst h; simpa using Reps.nil
  | d :: ds, vs, n + 1, h => by
    obtain ⟨v, r, rfl, h1, h2⟩ := h.uncons
    simpa using Reps.cons h1 (Reps.take n h2)
theorem Reps.set : ∀ {ds : List D} {vs : List V} {d : D} {v : V} (i : Nat), Reps K ι P ds vs → Rep K ι P d v → Reps K ι P (ds.set i d) (vs.set i v)
  | [], vs, d, v, i, h, _ => by unfold Reps at h; subst h; simpa using Reps.nil
  | x :: ds, vs, d, v, 0, h, h' => by
    obtain ⟨u, r, rfl, h1, h2⟩ := h.uncons
    simpa using Reps.cons h' h2
  | x :: ds, vs, d, v, i + 1, h, h' => by
    obtain ⟨u, r, rfl, h1, h2⟩ := h.uncons
    simpa using Reps.cons h1 (Reps.set i h2 h')
theorem Reps.eraseIdx : ∀ {ds : List D} {vs : List V} (i : Nat), Reps K ι P ds vs → Reps K ι P (ds.eraseIdx i) (vs.eraseIdx i)
  | [], vs, i, h => by unfold Reps at h; subst h; simpa using Reps.nil
  | x :: ds, vs, 0, h => by
    obtain ⟨u, r, rfl, h1, h2⟩ := h.uncons
    simpa using h2
  | x :: ds, vs, i + 1, h => by
    obtain ⟨u, r, rfl, h1, h2⟩ := h.uncons
    simpa using Reps.cons h1 (Reps.eraseIdx i h2)
theorem Reps.reverse : ∀ {ds : List D} {vs : List V}, Reps K ι P ds vs → Reps K ι P ds.reverse vs.reverse
  | [], vs, h => by unfold Reps at h; subst h; simpa using Reps.nil
  | x :: ds, vs, h => by
    obtain ⟨u, r, rfl, h1, h2⟩ := h.uncons
    rw [List.reverse_cons, List.reverse_cons]
    exact Reps.app (Reps.reverse h2) (Reps.one h1)
theorem Reps.cut {ds : List D} {vs : List V} (lo hi : Option Int) (h : Reps K ι P ds vs) : Reps K ι P ((ds.drop (HT.sIx ds.length 0 lo)).take (HT.sIx ds.length ds.length hi - HT.sIx ds.length 0 lo)) (cutV vs lo hi) := by
  unfold cutV
  rw [← h.length]
  exact (h.drop _).take _
theorem Reps.rep {ds : List D} {vs : List V} (h : Reps K ι P ds vs) : ∀ k : Nat, Reps K ι P (List.replicate k ds).flatten (List.replicate k vs).flatten
  | 0 => by simpa using Reps.nil
  | k + 1 => by
    rw [List.replicate_succ, List.replicate_succ, List.flatten_cons, List.flatten_cons]
    exact Reps.app h (Reps.rep h k)
theorem Reps.ints : ∀ ns : List Int, Reps K ι P (ns.map D.int) (ns.map V.int)
  | [] => Reps.nil
  | n :: r => Reps.cons (by unfold Rep; rfl) (Reps.ints r)
theorem Reps.strs : ∀ ns : List Str, Reps K ι P (ns.map D.str) (ns.map V.str)
  | [] => Reps.nil
  | n :: r => Reps.cons (by unfold Rep; rfl) (Reps.strs r)
theorem CellAt.mono {H : Hp} {a : Addr} (x : Ext ι P ι' P') : ∀ {c : Cell}, CellAt K ι P H a c → CellAt K ι' P' H a c
  | .lst xs, ⟨vs, e, r⟩ => ⟨vs, e, r.mono x⟩
  | .dK kvs, ⟨vs, e, r⟩ => ⟨vs, e, r.mono x⟩
  | .dT kvs, ⟨vs, e, r⟩ => ⟨vs, e, r.mono x⟩
  | .ins C fs, ⟨dx, vs, e, r⟩ => ⟨dx, vs, e, r.mono x⟩
theorem CellAt.heap {H H' : Hp} {a : Addr} (h : H' a = H a) : ∀ {c : Cell}, CellAt K ι P H a c → CellAt K ι P H' a c
  | .lst xs, ⟨vs, e, r⟩ => ⟨vs, h.trans e, r⟩
  | .dK kvs, ⟨vs, e, r⟩ => ⟨vs, h.trans e, r⟩
  | .dT kvs, ⟨vs, e, r⟩ => ⟨vs, h.trans e, r⟩
  | .ins C fs, ⟨dx, vs, e, r⟩ => ⟨dx, vs, h.trans e, r⟩
theorem CellAt.ex {H : Hp} {a : Addr} : ∀ {c : Cell}, CellAt K ι P H a c → ∃ o, H a = some o
  | .lst xs, ⟨vs, e, r⟩ => ⟨_, e⟩
  | .dK kvs, ⟨vs, e, r⟩ => ⟨_, e⟩
  | .dT kvs, ⟨vs, e, r⟩ => ⟨_, e⟩
  | .ins C fs, ⟨dx, vs, e, r⟩ => ⟨_, e⟩
/-- a cell as a tree -/
def Cell.fz : Cell → D
  | .lst xs => .lst xs
  | .dK kvs => .dK (kvs.map (·.1)) (kvs.map (·.2))
  | .dT kvs => .dT (kvs.map (·.1)) (kvs.map (·.2))
  | .ins C fs => .ins C (fs.map (·.1)) (fs.map (·.2))
def Wv.fz : Wv → D
  | .d x => x
  | .nw c => c.fz
end
end PL
end

section
set_option Elab.async false
set_option linter.all false
set_option maxRecDepth 100000
set_option maxHeartbeats 2000000
namespace PL
open PySem PySem.Spec PyProof.Rows L2

section
variable {K : PySem.W.Frag} {Z : Hp} {ι : List Addr} {P H : Hp} {s : S} {σ : L2.St} {a p : Addr} {o : HO}

theorem nodup_ixA {N : List Addr} (hN : N.Nodup) {i j : Nat} {x : Addr} (a : N[i]? = some x) (b : N[j]? = some x) : i = j := by
  obtain ⟨h1, e1⟩ := List.getElem?_eq_some_iff.mp a
  obtain ⟨h2, e2⟩ := List.getElem?_eq_some_iff.mp b
  exact (List.getElem_inj hN).mp (e1.trans e2.symm)
theorem upd_some {H : Hp} {p a : Addr} {o u : HO} (hp : H p = none) (e : H a = some u) : upd H p o a = some u := by
  rw [upd_ne (ne_of_none e hp)]; exact e
theorem CellAt.zipfz {ι' : List Addr} {P' : Hp} (x : Ext ι P ι' P') (hH : H a = some o) (hP : P' a = some o) : ∀ {c : Cell}, CellAt K ι P H a c → Rep K ι' P' c.fz (.ref a)
  | .lst xs, ⟨vs, e, r⟩ => by
    unfold Cell.fz Rep
    rw [hH] at e; cases e
    exact ⟨a, vs, rfl, hP, r.mono x⟩
  | .dK kvs, ⟨vs, e, r⟩ => by
    unfold Cell.fz Rep
    rw [hH] at e; cases e
    exact ⟨a, vs, rfl, .inl hP, by simpa using r.length, r.mono x⟩
  | .dT kvs, ⟨vs, e, r⟩ => by
    unfold Cell.fz Rep
    rw [hH] at e; cases e
    exact ⟨a, vs, rfl, .inl hP, by simpa using r.length, r.mono x⟩
  | .ins C fs, ⟨dx, vs, e, r⟩ => by
    unfold Cell.fz Rep
    rw [hH] at e; cases e
    exact ⟨a, dx, vs, rfl, hP, by simpa using r.length, r.mono x⟩

theorem SlotRel.ex {i : Nat} {c : Cell} (h : SlotRel K Z ι P H σ i (.own c)) : ∃ a, σ[i]? = some (some (.ref a)) ∧ P a = none ∧ Z a = none ∧ a ∉ ι ∧ CellAt K ι P H a c := h

/-- any heap that keeps every object of H -/
theorem SRel.heap {H' : Hp} (h : SRel K Z ι P H s σ) (k : ∀ a o, H a = some o → H' a = some o) : SRel K Z ι P H' s σ where
  p := fun a o e => k a o (h.p a o e)
  z := fun a o e => k a o (h.z a o e)
  nd := h.nd
  ιz := h.ιz
  ιp := h.ιp
  len := h.len
  cells := fun n c e => by
    obtain ⟨a, ha, hc⟩ := h.cells n c e
    obtain ⟨o, ho⟩ := hc.ex
    exact ⟨a, ha, hc.heap ((k a o ho).trans ho.symm)⟩
  elen := h.elen
  env := fun i sl e => by
    have q := h.env i sl e
    cases sl with
    | no => trivial
    | d d => exact q
    | own c =>
      obtain ⟨a, e1, e2, e3, e4, hc⟩ := q
      obtain ⟨o, ho⟩ := hc.ex
      exact ⟨a, e1, e2, e3, e4, hc.heap ((k a o ho).trans ho.symm)⟩
  sep := h.sep
theorem SRel.alloc (h : SRel K Z ι P H s σ) (hp : H p = none) : SRel K Z ι P (upd H p o) s σ := h.heap fun a u e => upd_some hp e
/-- what is P may grow by what is nobody's -/
theorem SRel.grow {P' : Hp} (h : SRel K Z ι P H s σ) (k : ∀ a o, P a = some o → P' a = some o) (k' : ∀ a o, P' a = some o → H a = some o) (n1 : ∀ a ∈ ι, P' a = none) (n2 : ∀ a, Mine s σ a → P' a = none) : SRel K Z ι P' H s σ where
  p := k'
  z := h.z
  nd := h.nd
  ιz := h.ιz
  ιp := n1
  len := h.len
  cells := fun n c e => by
    obtain ⟨a, ha, hc⟩ := h.cells n c e
    exact ⟨a, ha, hc.mono ⟨⟨[], by simp⟩, k⟩⟩
  elen := h.elen
  env := fun i sl e => by
    have q := h.env i sl e
    cases sl with
    | no => trivial
    | d d =>
      obtain ⟨v, e1, r⟩ := q
      exact ⟨v, e1, r.mono ⟨⟨[], by simp⟩, k⟩⟩
    | own c =>
      obtain ⟨a, e1, e2, e3, e4, hc⟩ := q
      exact ⟨a, e1, n2 a ⟨i, c, e, e1⟩, e3, e4, hc.mono ⟨⟨[], by simp⟩, k⟩⟩
  sep := h.sep
theorem SRel.mineP (h : SRel K Z ι P H s σ) (m : Mine s σ a) : P a = none ∧ Z a = none ∧ a ∉ ι ∧ ∃ o, H a = some o := by
  obtain ⟨i, c, e, e1⟩ := m
  obtain ⟨b, f1, f2, f3, f4, hc⟩ := (h.env i _ e).ex
  rw [e1] at f1; cases f1
  exact ⟨f2, f3, f4, hc.ex⟩
theorem SRel.putP (h : SRel K Z ι P H s σ) (hH : H p = some o) (hι : p ∉ ι) (hm : ¬ Mine s σ p) (hP : P p = none) : SRel K Z ι (upd P p o) H s σ := by
  refine h.grow (fun a u e => upd_some hP e) (fun a u e => ?_) (fun a ha => ?_) (fun a ha => ?_)
  · by_cases q : a = p
    · subst q; rw [upd_same] at e; cases e; exact hH
    · rw [upd_ne q] at e; exact h.p a u e
  · rw [upd_ne (fun q : a = p => hι (by rw [← q]; exact ha))]; exact h.ιp a ha
  · rw [upd_ne (fun q : a = p => hm (by rw [← q]; exact ha))]; exact (h.mineP ha).1
theorem ext_putP (hP : P p = none) : Ext ι P ι (upd P p o) := ⟨⟨[], by simp⟩, fun a u e => upd_some hP e⟩
theorem xz_putP (hP : P p = none) (hZ : Z p = none) : XZ Z ι P ι (upd P p o) := ⟨ext_putP hP, fun a u e => upd_ne (ne_of_none e hZ)⟩

/-- what a value that was worked out is -/
def WRep (K : PySem.W.Frag) (Z : Hp) (ι : List Addr) (P H : Hp) (s : S) (σ : L2.St) : Wv → V → Prop
  | .d d, v => Rep K ι P d v
  | .nw c, v => ∃ a, v = .ref a ∧ P a = none ∧ Z a = none ∧ a ∉ ι ∧ ¬ Mine s σ a ∧ CellAt K ι P H a c

/-- a new object is frozen -/
theorem SRel.fz {w : Wv} {v : V} (h : SRel K Z ι P H s σ) (r : WRep K Z ι P H s σ w v) : ∃ P', XZ Z ι P ι P' ∧ SRel K Z ι P' H s σ ∧ Rep K ι P' w.fz v := by
  cases w with
  | d d => exact ⟨P, .refl, h, r⟩
  | nw c =>
    obtain ⟨a, rfl, e1, e2, e3, e4, hc⟩ := r
    obtain ⟨o, ho⟩ := hc.ex
    exact ⟨upd P a o, xz_putP e1 e2, h.putP ho e3 e4 e1, hc.zipfz (ext_putP e1) ho upd_same⟩

theorem SRel.slotlt (h : SRel K Z ι P H s σ) {i : Nat} {sl : Sl} (e : s.env[i]? = some sl) : i < s.env.length := (List.getElem?_eq_some_iff.mp e).1

/-- one slot becomes a tree, its name's value stays or is set -/
theorem SRel.setD {i : Nat} {d : D} {v : V} (h : SRel K Z ι P H s σ) (hi : i < s.env.length) (r : Rep K ι P d v) : SRel K Z ι P H ⟨s.env.set i (.d d), s.st⟩ (σ.set i (some v)) where
  p := h.p
  z := h.z
  nd := h.nd
  ιz := h.ιz
  ιp := h.ιp
  len := h.len
  cells := h.cells
  elen := by simp [h.elen]
  env := fun j sl e => by
    have e : (s.env.set i (.d d))[j]? = some sl := e
    by_cases q : j = i
    · subst q
      rw [List.getElem?_set_self hi] at e
      cases e
      exact ⟨v, by rw [List.getElem?_set_self (by rw [← h.elen]; exact hi)], r⟩
    · rw [List.getElem?_set_ne (Ne.symm q)] at e
      have z := h.env j sl e
      have e2 : (σ.set i (some v))[j]? = σ[j]? := List.getElem?_set_ne (Ne.symm q)
      cases sl with
      | no => trivial
      | d d => obtain ⟨v, e1, r⟩ := z; exact ⟨v, e2.trans e1, r⟩
      | own c => obtain ⟨a, e1, r⟩ := z; exact ⟨a, e2.trans e1, r⟩
  sep := fun j k a cj ck e1 e2 e3 e4 => by
    have e1 : (s.env.set i (.d d))[j]? = some (.own cj) := e1
    have e2 : (s.env.set i (.d d))[k]? = some (.own ck) := e2
    by_cases q : j = i
    · subst q; rw [List.getElem?_set_self hi] at e1; cases e1
    · by_cases q2 : k = i
      · subst q2; rw [List.getElem?_set_self hi] at e2; cases e2
      · rw [List.getElem?_set_ne (Ne.symm q)] at e1
        rw [List.getElem?_set_ne (Ne.symm q2)] at e2
        rw [List.getElem?_set_ne (Ne.symm q)] at e3
        rw [List.getElem?_set_ne (Ne.symm q2)] at e4
        exact h.sep j k a cj ck e1 e2 e3 e4
theorem SRel.setOwn {i : Nat} {c : Cell} (h : SRel K Z ι P H s σ) (hi : i < s.env.length) (e1 : P a = none) (e2 : Z a = none) (e3 : a ∉ ι) (e4 : ¬ Mine s σ a) (hc : CellAt K ι P H a c) :
    SRel K Z ι P H ⟨s.env.set i (.own c), s.st⟩ (σ.set i (some (.ref a))) where
  p := h.p
  z := h.z
  nd := h.nd
  ιz := h.ιz
  ιp := h.ιp
  len := h.len
  cells := h.cells
  elen := by simp [h.elen]
  env := fun j sl e => by
    have e : (s.env.set i (.own c))[j]? = some sl := e
    by_cases q : j = i
    · subst q
      rw [List.getElem?_set_self hi] at e
      cases e
      exact ⟨a, by rw [List.getElem?_set_self (by rw [← h.elen]; exact hi)], e1, e2, e3, hc⟩
    · rw [List.getElem?_set_ne (Ne.symm q)] at e
      have z := h.env j sl e
      have e2 : (σ.set i (some (.ref a)))[j]? = σ[j]? := List.getElem?_set_ne (Ne.symm q)
      cases sl with
      | no => trivial
      | d d => obtain ⟨v, e1, r⟩ := z; exact ⟨v, e2.trans e1, r⟩
      | own c => obtain ⟨a, e1, r⟩ := z; exact ⟨a, e2.trans e1, r⟩
  sep := fun j k b cj ck f1 f2 f3 f4 => by
    have f1 : (s.env.set i (.own c))[j]? = some (.own cj) := f1
    have f2 : (s.env.set i (.own c))[k]? = some (.own ck) := f2
    have hi' : i < σ.length := by rw [← h.elen]; exact hi
    by_cases q : j = i
    · by_cases q2 : k = i
      · rw [q, q2]
      · subst q
        rw [List.getElem?_set_self hi'] at f3
        rw [List.getElem?_set_ne (Ne.symm q2)] at f2 f4
        cases f3
        exact absurd ⟨k, ck, f2, f4⟩ e4
    · by_cases q2 : k = i
      · subst q2
        rw [List.getElem?_set_self hi'] at f4
        rw [List.getElem?_set_ne (Ne.symm q)] at f1 f3
        cases f4
        exact absurd ⟨j, cj, f1, f3⟩ e4
      · rw [List.getElem?_set_ne (Ne.symm q)] at f1 f3
        rw [List.getElem?_set_ne (Ne.symm q2)] at f2 f4
        exact h.sep j k b cj ck f1 f2 f3 f4
theorem SRel.setNo {i : Nat} {u : Option V} (h : SRel K Z ι P H s σ) : SRel K Z ι P H ⟨s.env.set i .no, s.st⟩ (σ.set i u) where
  p := h.p
  z := h.z
  nd := h.nd
  ιz := h.ιz
  ιp := h.ιp
  len := h.len
  cells := h.cells
  elen := by simp [h.elen]
  env := fun j sl e => by
    have e : (s.env.set i .no)[j]? = some sl := e
    by_cases q : j = i
    · subst q
      by_cases hi : j < s.env.length
      · rw [List.getElem?_set_self hi] at e
        cases e
        trivial
      · rw [List.getElem?_eq_none (by simpa using hi)] at e; cases e
    · rw [List.getElem?_set_ne (Ne.symm q)] at e
      have z := h.env j sl e
      have e2 : (σ.set i u)[j]? = σ[j]? := List.getElem?_set_ne (Ne.symm q)
      cases sl with
      | no => trivial
      | d d => obtain ⟨v, e1, r⟩ := z; exact ⟨v, e2.trans e1, r⟩
      | own c => obtain ⟨a, e1, r⟩ := z; exact ⟨a, e2.trans e1, r⟩
  sep := fun j k b cj ck f1 f2 f3 f4 => by
    have f1 : (s.env.set i .no)[j]? = some (.own cj) := f1
    have f2 : (s.env.set i .no)[k]? = some (.own ck) := f2
    have nj : j ≠ i := fun q => by
      subst q
      by_cases hi : j < s.env.length
      · rw [List.getElem?_set_self hi] at f1; cases f1
      · rw [List.getElem?_eq_none (by simpa using hi)] at f1; cases f1
    have nk : k ≠ i := fun q => by
      subst q
      by_cases hi : k < s.env.length
      · rw [List.getElem?_set_self hi] at f2; cases f2
      · rw [List.getElem?_eq_none (by simpa using hi)] at f2; cases f2
    rw [List.getElem?_set_ne (Ne.symm nj)] at f1 f3
    rw [List.getElem?_set_ne (Ne.symm nk)] at f2 f4
    exact h.sep j k b cj ck f1 f2 f3 f4
theorem set_same {σ : L2.St} {i : Nat} {u : Option V} (e : σ[i]? = some u) : σ.set i u = σ := by
  apply List.ext_getElem?
  intro j
  by_cases q : j = i
  · subst q
    have hi : j < σ.length := (List.getElem?_eq_some_iff.mp e).1
    rw [List.getElem?_set_self hi, e]
  · rw [List.getElem?_set_ne (Ne.symm q)]
theorem SRel.notMine_set {i : Nat} {sl : Sl} {a : Addr} (h : SRel K Z ι P H s σ) {c : Cell} (e : s.env[i]? = some (.own c)) (ea : σ[i]? = some (some (.ref a))) : ¬ Mine ⟨s.env.set i .no, s.st⟩ σ a := by
  rintro ⟨j, cj, f1, f2⟩
  have f1 : (s.env.set i .no)[j]? = some (.own cj) := f1
  have hi := (List.getElem?_eq_some_iff.mp e).1
  by_cases q : j = i
  · subst q; rw [List.getElem?_set_self hi] at f1; cases f1
  · rw [List.getElem?_set_ne (Ne.symm q)] at f1
    exact q (h.sep j i a cj c f1 e f2 ea)
/-- a slot lets its object go -/
theorem SRel.letGo {i : Nat} {c : Cell} (h : SRel K Z ι P H s σ) (e : s.env[i]? = some (.own c)) : ∃ a, σ[i]? = some (some (.ref a)) ∧ WRep K Z ι P H ⟨s.env.set i .no, s.st⟩ σ (.nw c) (.ref a) ∧ SRel K Z ι P H ⟨s.env.set i .no, s.st⟩ σ := by
  obtain ⟨a, e1, e2, e3, e4, hc⟩ := (h.env i _ e).ex
  have q := h.setNo (i := i) (u := some (.ref a))
  rw [set_same e1] at q
  exact ⟨a, e1, ⟨a, rfl, e2, e3, e4, h.notMine_set (sl := .no) e e1, hc⟩, q⟩
/-- its object is frozen where it stands -/
theorem SRel.freeze {i : Nat} {c : Cell} (h : SRel K Z ι P H s σ) (e : s.env[i]? = some (.own c)) : ∃ (a : Addr) (P' : Hp), σ[i]? = some (some (.ref a)) ∧ XZ Z ι P ι P' ∧ SRel K Z ι P' H ⟨s.env.set i (.d c.fz), s.st⟩ σ ∧ Rep K ι P' c.fz (.ref a) := by
  obtain ⟨a, e1, w, h1⟩ := h.letGo e
  obtain ⟨P', x, h2, r⟩ := h1.fz w
  have hi := (List.getElem?_eq_some_iff.mp e).1
  have h3 := h2.setD (i := i) (d := c.fz) (v := .ref a) (by simpa using hi) r
  rw [set_same e1] at h3
  have e5 : ((⟨s.env.set i .no, s.st⟩ : S).env.set i (.d c.fz)) = s.env.set i (.d c.fz) := by simp
  rw [e5] at h3
  exact ⟨a, P', e1, x, h3, r⟩
/-- a new object becomes a shared one -/
theorem SRel.push {c : Cell} {v : V} (h : SRel K Z ι P H s σ) (w : WRep K Z ι P H s σ (.nw c) v) : ∃ (a : Addr), v = .ref a ∧ XZ Z ι P (ι ++ [a]) P ∧ SRel K Z (ι ++ [a]) P H ⟨s.env, s.st ++ [c]⟩ σ := by
  obtain ⟨a, rfl, e2, e3, e4, hm, hc⟩ := w
  have x : Ext ι P (ι ++ [a]) P := ⟨⟨[a], rfl⟩, fun _ _ q => q⟩
  refine ⟨a, rfl, ⟨x, fun _ _ _ => rfl⟩, ⟨h.p, h.z, ?_, ?_, ?_, ?_, ?_, h.elen, ?_, h.sep⟩⟩
  · rw [List.nodup_append]
    refine ⟨h.nd, by simp, ?_⟩
    intro b hb c hc
    simp at hc; subst hc
    intro q; subst q; exact e4 hb
  · intro b hb
    rcases List.mem_append.mp hb with hb | hb
    · exact h.ιz b hb
    · simp at hb; subst hb; exact e3
  · intro b hb
    rcases List.mem_append.mp hb with hb | hb
    · exact h.ιp b hb
    · simp at hb; subst hb; exact e2
  · simp [h.len]
  · intro n c' e
    have e : (s.st ++ [c])[n]? = some c' := e
    by_cases q : n < s.st.length
    · rw [List.getElem?_append_left q] at e
      obtain ⟨b, hb, hcb⟩ := h.cells n c' e
      exact ⟨b, x.get hb, hcb.mono x⟩
    · have q' : s.st.length ≤ n := Nat.le_of_not_lt q
      rw [List.getElem?_append_right q'] at e
      have q2 : n = s.st.length := by
        by_cases z : n - s.st.length = 0
        · omega
        · obtain ⟨k, hk⟩ := Nat.exists_eq_succ_of_ne_zero z
          rw [hk] at e; simp at e
      subst q2
      simp at e; subst e
      refine ⟨a, ?_, hc.mono x⟩
      rw [h.len, List.getElem?_append_right (Nat.le_refl _)]
      simp
  · intro i sl e
    have q := h.env i sl e
    cases sl with
    | no => trivial
    | d d => obtain ⟨v, e1, r⟩ := q; exact ⟨v, e1, r.mono x⟩
    | own c' =>
      obtain ⟨b, f1, f2, f3, f4, hc'⟩ := q
      refine ⟨b, f1, f2, f3, ?_, hc'.mono x⟩
      intro hb
      rcases List.mem_append.mp hb with hb | hb
      · exact f4 hb
      · simp at hb; subst hb; exact hm ⟨i, c', e, f1⟩
/-- a slot's object becomes a shared one -/
theorem SRel.share {i : Nat} {c : Cell} (h : SRel K Z ι P H s σ) (e : s.env[i]? = some (.own c)) :
    ∃ (a : Addr), σ[i]? = some (some (.ref a)) ∧ XZ Z ι P (ι ++ [a]) P ∧ SRel K Z (ι ++ [a]) P H ⟨s.env.set i (.d (.ref s.st.length)), s.st ++ [c]⟩ σ ∧ Rep K (ι ++ [a]) P (.ref s.st.length) (.ref a) := by
  obtain ⟨a, e1, w, h1⟩ := h.letGo e
  obtain ⟨b, eb, x, h2⟩ := h1.push w
  cases eb
  have hi := (List.getElem?_eq_some_iff.mp e).1
  have r : Rep K (ι ++ [a]) P (.ref s.st.length) (.ref a) := by
    unfold Rep
    refine ⟨a, rfl, ?_⟩
    rw [h.len, List.getElem?_append_right (Nat.le_refl _)]
    simp
  have h3 := h2.setD (i := i) (d := .ref s.st.length) (v := .ref a) (by simpa using hi) r
  rw [set_same e1] at h3
  have e5 : ((⟨s.env.set i .no, s.st ++ [c]⟩ : S).env.set i (.d (.ref s.st.length))) = s.env.set i (.d (.ref s.st.length)) := by simp
  have e6 : (⟨s.env.set i .no, s.st⟩ : S).st = s.st := rfl
  rw [e5] at h3
  exact ⟨a, e1, x, h3, r⟩
/-- a slot's object is changed -/
theorem SRel.writeOwn {i : Nat} {c c' : Cell} {o : HO} (h : SRel K Z ι P H s σ) (e : s.env[i]? = some (.own c)) (ea : σ[i]? = some (some (.ref a))) (hc : CellAt K ι P (upd H a o) a c') :
    SRel K Z ι P (upd H a o) ⟨s.env.set i (.own c'), s.st⟩ σ := by
  obtain ⟨b, e1, e2, e3, e4, _⟩ := (h.env i _ e).ex
  rw [ea] at e1; cases e1
  have hi := (List.getElem?_eq_some_iff.mp e).1
  refine ⟨fun b u q => ?_, fun b u q => ?_, h.nd, h.ιz, h.ιp, h.len, fun n cc q => ?_, by simp [h.elen], fun j sl q => ?_, fun j k b cj ck f1 f2 f3 f4 => ?_⟩
  · rw [upd_ne (fun z => by subst z; rw [e2] at q; cases q)]; exact h.p b u q
  · rw [upd_ne (fun z => by subst z; rw [e3] at q; cases q)]; exact h.z b u q
  · obtain ⟨b, hb, hcb⟩ := h.cells n cc q
    refine ⟨b, hb, hcb.heap (upd_ne fun z => ?_)⟩
    subst z
    exact e4 (List.mem_of_getElem? hb)
  · have q : (s.env.set i (.own c'))[j]? = some sl := q
    by_cases z : j = i
    · subst z
      rw [List.getElem?_set_self hi] at q
      cases q
      exact ⟨a, ea, e2, e3, e4, hc⟩
    · rw [List.getElem?_set_ne (Ne.symm z)] at q
      have y := h.env j sl q
      cases sl with
      | no => trivial
      | d d => exact y
      | own cj =>
        obtain ⟨b, f1, f2, f3, f4, hcj⟩ := y
        refine ⟨b, f1, f2, f3, f4, hcj.heap (upd_ne fun w => ?_)⟩
        subst w
        exact z (h.sep j i b cj c q e f1 ea)
  · have f1 : (s.env.set i (.own c'))[j]? = some (.own cj) := f1
    have f2 : (s.env.set i (.own c'))[k]? = some (.own ck) := f2
    have g1 : ∃ cj, s.env[j]? = some (.own cj) := by
      by_cases z : j = i
      · subst z; exact ⟨c, e⟩
      · rw [List.getElem?_set_ne (Ne.symm z)] at f1; exact ⟨_, f1⟩
    have g2 : ∃ cj, s.env[k]? = some (.own cj) := by
      by_cases z : k = i
      · subst z; exact ⟨c, e⟩
      · rw [List.getElem?_set_ne (Ne.symm z)] at f2; exact ⟨_, f2⟩
    obtain ⟨_, g1⟩ := g1
    obtain ⟨_, g2⟩ := g2
    exact h.sep j k b _ _ g1 g2 f3 f4
/-- a shared object is changed -/
theorem SRel.writeCell {n : Nat} {c c' : Cell} {o : HO} (h : SRel K Z ι P H s σ) (e : s.st[n]? = some c) (ea : ι[n]? = some a) (hc : CellAt K ι P (upd H a o) a c') :
    SRel K Z ι P (upd H a o) ⟨s.env, s.st.set n c'⟩ σ := by
  have hm : a ∈ ι := List.mem_of_getElem? ea
  have e2 := h.ιp a hm
  have e3 := h.ιz a hm
  have hi := (List.getElem?_eq_some_iff.mp e).1
  refine ⟨fun b u q => ?_, fun b u q => ?_, h.nd, h.ιz, h.ιp, by simp [h.len], fun k cc q => ?_, h.elen, fun j sl q => ?_, h.sep⟩
  · rw [upd_ne (fun z => by subst z; rw [e2] at q; cases q)]; exact h.p b u q
  · rw [upd_ne (fun z => by subst z; rw [e3] at q; cases q)]; exact h.z b u q
  · have q : (s.st.set n c')[k]? = some cc := q
    by_cases z : k = n
    · subst z
      rw [List.getElem?_set_self hi] at q
      cases q
      exact ⟨a, ea, hc⟩
    · rw [List.getElem?_set_ne (Ne.symm z)] at q
      obtain ⟨b, hb, hcb⟩ := h.cells k cc q
      refine ⟨b, hb, hcb.heap (upd_ne fun w => ?_)⟩
      subst w
      exact z (nodup_ixA h.nd hb ea)
  · have y := h.env j sl q
    cases sl with
    | no => trivial
    | d d => exact y
    | own cj =>
      obtain ⟨b, f1, f2, f3, f4, hcj⟩ := y
      exact ⟨b, f1, f2, f3, f4, hcj.heap (upd_ne fun w => f4 (by rw [w]; exact hm))⟩
end
end PL
end

section
set_option Elab.async false
set_option linter.all false
set_option maxRecDepth 100000
set_option maxHeartbeats 2000000
namespace PL
open PySem PySem.Spec PyProof.Rows L2

/-! ### how a Lean function stands for a piece of text -/
abbrev RT (α β : Type) := Hp → L2.St → List Addr → Hp → Hp → S → α → β → Prop
def RD (K : PySem.W.Frag) : RT D V := fun _ _ ι P _ _ d v => Rep K ι P d v
def RW (K : PySem.W.Frag) : RT Wv V := fun Z σ ι P H s w v => WRep K Z ι P H s σ w v
def RB : RT Bool Bool := fun _ _ _ _ _ _ a b => b = a
def RL (K : PySem.W.Frag) : RT (List D) (List V) := fun _ _ ι P _ _ d v => Reps K ι P d v
def ERep (K : PySem.W.Frag) (ι : List Addr) (P : Hp) (x : Exc) (c : Value) (d : Option Addr) : Prop :=
  c = .ref (He.ga K x.cls) ∧ ((x.fs = [] ∧ d = none) ∨ ∃ dd vs, d = some dd ∧ P dd = some (.xd ((x.fs.map (·.1)).zip vs)) ∧ Reps K ι P (x.fs.map (·.2)) vs)
/-- an error is one that is wished for -/
def ErrOK (K : PySem.W.Frag) (W : WX) (Z : Hp) (ι : List Addr) (P : Hp) (σ : L2.St) (x : Exc) (s' : S) : Prop :=
  ∀ (c : Value) (d : Option Addr) (H' : Hp) (ι' : List Addr) (P' : Hp), XZ Z ι P ι' P' → SRel K Z ι' P' H' s' σ → ERep K ι' P' x c d → W c d σ H'
def Out {α β : Type} (K : PySem.W.Frag) (R : RT α β) (W : WX) (Z : Hp) (ι : List Addr) (P : Hp) (σ : L2.St) (Q : β → Hp → Prop) : Res α → Prop
  | .ok a s' => ∀ (b : β) (H' : Hp) (ι' : List Addr) (P' : Hp), XZ Z ι P ι' P' → SRel K Z ι' P' H' s' σ → R Z σ ι' P' H' s' a b → Q b H'
  | .err x s' => ErrOK K W Z ι P σ x s'
  | .stuck => False
def tR {α β : Type} (K : PySem.W.Frag) (R : RT α β) (W : WX) (f : S → Res α) : L2.St → Hp → (β → Hp → Prop) → Prop := fun σ H Q =>
  ∃ (s : S) (ι : List Addr) (P Z : Hp), SRel K Z ι P H s σ ∧ Out K R W Z ι P σ Q (f s)
abbrev tD (K : PySem.W.Frag) (W : WX) (f : S → Res D) : TE := tR K (RD K) W f
abbrev tW (K : PySem.W.Frag) (W : WX) (f : S → Res Wv) : TE := tR K (RW K) W f
abbrev tB' (K : PySem.W.Frag) (W : WX) (f : S → Res Bool) : TT := tR K RB W f
abbrev tL (K : PySem.W.Frag) (W : WX) (f : S → Res (List D)) : TA := tR K (RL K) W f
def OutS (K : PySem.W.Frag) (W : WX) (Z : Hp) (ι : List Addr) (P : Hp) (A : Ends) : Fl → Prop
  | .nx s' => ∀ (σ' : L2.St) (H' : Hp) (ι' : List Addr) (P' : Hp), XZ Z ι P ι' P' → SRel K Z ι' P' H' s' σ' → A.nx σ' H'
  | .rt w s' => ∀ (v : V) (σ' : L2.St) (H' : Hp) (ι' : List Addr) (P' : Hp), XZ Z ι P ι' P' → SRel K Z ι' P' H' s' σ' → WRep K Z ι' P' H' s' σ' w v → A.rt v H'
  | .bk s' => ∀ (σ' : L2.St) (H' : Hp) (ι' : List Addr) (P' : Hp), XZ Z ι P ι' P' → SRel K Z ι' P' H' s' σ' → A.bk σ' H'
  | .ct s' => ∀ (σ' : L2.St) (H' : Hp) (ι' : List Addr) (P' : Hp), XZ Z ι P ι' P' → SRel K Z ι' P' H' s' σ' → A.ct σ' H'
  | .err x s' => ∀ (c : Value) (d : Option Addr) (σ' : L2.St) (H' : Hp) (ι' : List Addr) (P' : Hp), XZ Z ι P ι' P' → SRel K Z ι' P' H' s' σ' → ERep K ι' P' x c d → W c d σ' H'
  | .stuck => False
def tSt (K : PySem.W.Frag) (W : WX) (f : S → Fl) : TS := fun A σ H => ∃ (s : S) (ι : List Addr) (P Z : Hp), SRel K Z ι P H s σ ∧ OutS K W Z ι P A (f s)

abbrev JD (X : Cx) (W : WX) (e : Expr) (f : S → Res D) : Prop := PE X e (tD X.K W f)
abbrev JW (X : Cx) (W : WX) (e : Expr) (f : S → Res Wv) : Prop := PE X e (tW X.K W f)
abbrev JT (X : Cx) (W : WX) (e : Expr) (f : S → Res Bool) : Prop := PT X e (tB' X.K W f)
abbrev JTW (X : Cx) (W : WX) (e : Expr) (f : S → Res Bool) : Prop := L2.PW X e (tB' X.K W f)
abbrev JL (X : Cx) (W : WX) (es : List Expr) (f : S → Res (List D)) : Prop := PA X es (tL X.K W f)
abbrev JS (X : Cx) (W : WX) (st : Stmt) (f : S → Fl) : Prop := PS X st (tSt X.K W f)
abbrev JSs (X : Cx) (W : WX) (st : List Stmt) (f : S → Fl) : Prop := PSs X st (tSt X.K W f)

theorem pe_weak {X : Cx} {e : Expr} {t t' : TE} (h : PE X e t) (k : ∀ σ H Q, t' σ H Q → t σ H Q) : PE X e t' := ⟨fun pins s σ H Q I q => h.run pins s σ H Q I (k _ _ _ q)⟩
theorem pt_weak {X : Cx} {e : Expr} {t t' : TT} (h : PT X e t) (k : ∀ σ H Q, t' σ H Q → t σ H Q) : PT X e t' := ⟨fun pins s σ H Q I q => h.run pins s σ H Q I (k _ _ _ q)⟩
theorem pw_weak {X : Cx} {e : Expr} {t t' : TT} (h : L2.PW X e t) (k : ∀ σ H Q, t' σ H Q → t σ H Q) : L2.PW X e t' := ⟨fun wh pins s σ H Q I q => h.run wh pins s σ H Q I (k _ _ _ q)⟩
theorem pa_weak {X : Cx} {e : List Expr} {t t' : TA} (h : PA X e t) (k : ∀ σ H Q, t' σ H Q → t σ H Q) : PA X e t' := ⟨fun pos pins s σ H Q I q => h.run pos pins s σ H Q I (k _ _ _ q)⟩
theorem ps_weak {X : Cx} {e : Stmt} {t t' : TS} (h : PS X e t) (k : ∀ D σ H, t' D σ H → t D σ H) : PS X e t' := ⟨fun pins s σ H D I q => h.run pins s σ H D I (k _ _ _ q)⟩
theorem pss_weak {X : Cx} {e : List Stmt} {t t' : TS} (h : PSs X e t) (k : ∀ D σ H, t' D σ H → t D σ H) : PSs X e t' := ⟨fun pins s σ H D I q => h.run pins s σ H D I (k _ _ _ q)⟩

def Res.bind {α β : Type} : Res α → (α → S → Res β) → Res β
  | .ok a s, g => g a s
  | .err x s, _ => .err x s
  | .stuck, _ => .stuck
def Res.map {α β : Type} (r : Res α) (g : α → β) : Res β := r.bind fun a s => .ok (g a) s
def Res.fl {α : Type} : Res α → (α → S → Fl) → Fl
  | .ok a s, g => g a s
  | .err x s, _ => .err x s
  | .stuck, _ => .stuck
def Res.lift {α : Type} : Option α → S → Res α
  | some a, s => .ok a s
  | none, _ => .stuck
def Fl.bind : Fl → (S → Fl) → Fl
  | .nx s, g => g s
  | .rt w s, _ => .rt w s
  | .bk s, _ => .bk s
  | .ct s, _ => .ct s
  | .err x s, _ => .err x s
  | .stuck, _ => .stuck

section
variable {K : PySem.W.Frag} {W : WX} {Z : Hp} {ι ι1 : List Addr} {P P1 H : Hp} {s : S} {σ : L2.St} {α β γ δ : Type} {R : RT α β} {R' : RT γ δ}
theorem ErrOK.trans {x : Exc} {s' : S} (h : ErrOK K W Z ι P σ x s') (x1 : XZ Z ι P ι1 P1) : ErrOK K W Z ι1 P1 σ x s' :=
  fun c d H' ι' P' x2 => h c d H' ι' P' (x1.trans x2)
theorem Out.trans {Q : β → Hp → Prop} {r : Res α} (h : Out K R W Z ι P σ Q r) (x1 : XZ Z ι P ι1 P1) : Out K R W Z ι1 P1 σ Q r := by
  cases r with
  | ok a s' => exact fun b H' ι' P' x2 => h b H' ι' P' (x1.trans x2)
  | err x s' => exact ErrOK.trans h x1
  | stuck => exact h
theorem OutS.trans {A : Ends} {r : Fl} (h : OutS K W Z ι P A r) (x1 : XZ Z ι P ι1 P1) : OutS K W Z ι1 P1 A r := by
  cases r with
  | nx s' => exact fun σ' H' ι' P' x2 => h σ' H' ι' P' (x1.trans x2)
  | rt w s' => exact fun v σ' H' ι' P' x2 => h v σ' H' ι' P' (x1.trans x2)
  | bk s' => exact fun σ' H' ι' P' x2 => h σ' H' ι' P' (x1.trans x2)
  | ct s' => exact fun σ' H' ι' P' x2 => h σ' H' ι' P' (x1.trans x2)
  | err x s' => exact fun c d σ' H' ι' P' x2 => h c d σ' H' ι' P' (x1.trans x2)
  | stuck => exact h
/-- first f, then what follows -/
theorem tR_bind {f : S → Res α} {g : α → S → Res γ} (hS : SRel K Z ι P H s σ) {Q : δ → Hp → Prop} (hO : Out K R' W Z ι P σ Q ((f s).bind g)) {Q1 : β → Hp → Prop}
    (k : ∀ (a : α) (s1 : S) (b : β) (H1 : Hp) (ι1 : List Addr) (P1 : Hp), XZ Z ι P ι1 P1 → SRel K Z ι1 P1 H1 s1 σ → R Z σ ι1 P1 H1 s1 a b → Out K R' W Z ι1 P1 σ Q (g a s1) → Q1 b H1) : tR K R W f σ H Q1 := by
  refine ⟨s, ι, P, Z, hS, ?_⟩
  cases e : f s with
  | ok a s1 =>
    rw [e] at hO
    exact fun b H1 ι1 P1 x1 S1 r1 => k a s1 b H1 ι1 P1 x1 S1 r1 (hO.trans x1)
  | err x s1 => rw [e] at hO; exact hO
  | stuck => rw [e] at hO; exact hO
theorem tR_bindE {f : S → Res α} {g : α → S → Res γ} (hS : SRel K Z ι P H s σ) {Q : δ → Hp → Prop} (hO : Out K R' W Z ι P σ Q ((f s).bind g)) {Q1 : β → Hp → Prop}
    (k : ∀ (a : α) (s1 : S) (b : β) (H1 : Hp) (ι1 : List Addr) (P1 : Hp), f s = .ok a s1 → XZ Z ι P ι1 P1 → SRel K Z ι1 P1 H1 s1 σ → R Z σ ι1 P1 H1 s1 a b → Out K R' W Z ι1 P1 σ Q (g a s1) → Q1 b H1) : tR K R W f σ H Q1 := by
  refine ⟨s, ι, P, Z, hS, ?_⟩
  cases e : f s with
  | ok a s1 =>
    rw [e] at hO
    exact fun b H1 ι1 P1 x1 S1 r1 => k a s1 b H1 ι1 P1 e x1 S1 r1 (hO.trans x1)
  | err x s1 => rw [e] at hO; exact hO
  | stuck => rw [e] at hO; exact hO
theorem tR_fl {f : S → Res α} {g : α → S → Fl} {A : Ends} (hS : SRel K Z ι P H s σ) (hO : OutS K W Z ι P A ((f s).fl g)) {Q1 : β → Hp → Prop}
    (k : ∀ (a : α) (s1 : S) (b : β) (H1 : Hp) (ι1 : List Addr) (P1 : Hp), XZ Z ι P ι1 P1 → SRel K Z ι1 P1 H1 s1 σ → R Z σ ι1 P1 H1 s1 a b → OutS K W Z ι1 P1 A (g a s1) → Q1 b H1) : tR K R W f σ H Q1 := by
  refine ⟨s, ι, P, Z, hS, ?_⟩
  cases e : f s with
  | ok a s1 =>
    rw [e] at hO
    exact fun b H1 ι1 P1 x1 S1 r1 => k a s1 b H1 ι1 P1 x1 S1 r1 (hO.trans x1)
  | err x s1 =>
    rw [e] at hO
    exact fun c d H' ι' P' x1 S1 r1 => hO c d σ H' ι' P' x1 S1 r1
  | stuck => rw [e] at hO; exact hO
/-- the end: what is wanted at a value -/
theorem Out.ok {Q : β → Hp → Prop} {a : α} {s1 : S} (h : Out K R W Z ι P σ Q (.ok a s1)) {b : β} {H1 : Hp} (hS : SRel K Z ι P H1 s1 σ) (r : R Z σ ι P H1 s1 a b) : Q b H1 := h b H1 ι P .refl hS r
theorem Out.okX {Q : β → Hp → Prop} {a : α} {s1 : S} (h : Out K R W Z ι P σ Q (.ok a s1)) {b : β} {H1 : Hp} (x : XZ Z ι P ι1 P1) (hS : SRel K Z ι1 P1 H1 s1 σ) (r : R Z σ ι1 P1 H1 s1 a b) : Q b H1 := h b H1 ι1 P1 x hS r
end

/-! ### what is made without a change of what stood -/
structure Done (K : PySem.W.Frag) (ι : List Addr) (P H : Hp) (w : Wv) (v : V) (P' H' : Hp) : Prop where
  hh : ∀ a o, H a = some o → H' a = some o
  pp : ∀ a o, P a = some o → P' a = some o
  pn : ∀ a o, H a = some o → P' a = P a
  ph : ∀ a o, P' a = some o → H' a = some o
  w : match w with
    | .d d => Rep K ι P' d v
    | .nw c => ∃ a, v = .ref a ∧ H a = none ∧ P' a = none ∧ CellAt K ι P' H' a c
section
variable {K : PySem.W.Frag} {Z : Hp} {ι : List Addr} {P H P' H' : Hp} {s : S} {σ : L2.St} {w : Wv} {v : V} {p : Addr} {o : HO} {d : D} {c : Cell}
theorem Done.same (hp : ∀ a o, P a = some o → H a = some o) (r : Rep K ι P d v) : Done K ι P H (.d d) v P H := ⟨fun _ _ e => e, fun _ _ e => e, fun _ _ _ => rfl, hp, r⟩
theorem Done.newD (hp : ∀ a o, P a = some o → H a = some o) (hn : H p = none) (r : Rep K ι (upd P p o) d (.ref p)) : Done K ι P H (.d d) (.ref p) (upd P p o) (upd H p o) where
  hh := fun a u e => upd_some hn e
  pp := fun a u e => by
    have := hp a u e
    rw [upd_ne (ne_of_none this hn)]; exact e
  pn := fun a u e => upd_ne (ne_of_none e hn)
  ph := fun a u e => by
    by_cases q : a = p
    · subst q; rw [upd_same] at e ⊢; exact e
    · rw [upd_ne q] at e ⊢; exact hp a u e
  w := r
theorem Done.newC (hp : ∀ a o, P a = some o → H a = some o) (hn : H p = none) (hc : CellAt K ι P (upd H p o) p c) : Done K ι P H (.nw c) (.ref p) P (upd H p o) where
  hh := fun a u e => upd_some hn e
  pp := fun a u e => e
  pn := fun a u e => rfl
  ph := fun a u e => upd_some hn (hp a u e)
  w := by
    have e : P p = none := by
      cases q : P p with
      | none => rfl
      | some u => rw [hp p u q] at hn; cases hn
    exact ⟨p, rfl, hn, e, hc⟩
theorem SRel.ιH (h : SRel K Z ι P H s σ) {a : Addr} (ha : a ∈ ι) : ∃ o, H a = some o := by
  obtain ⟨n, hn⟩ := List.getElem?_of_mem ha
  have hl : n < s.st.length := by rw [h.len]; exact (List.getElem?_eq_some_iff.mp hn).1
  obtain ⟨b, hb, hc⟩ := h.cells n _ (List.getElem?_eq_getElem hl)
  rw [hn] at hb; cases hb
  exact hc.ex
theorem SRel.done (h : SRel K Z ι P H s σ) (x : Done K ι P H w v P' H') : XZ Z ι P ι P' ∧ SRel K Z ι P' H' s σ ∧ WRep K Z ι P' H' s σ w v := by
  have h1 := h.heap x.hh
  have h2 : SRel K Z ι P' H' s σ := h1.grow x.pp x.ph (fun a ha => by
    obtain ⟨o, ho⟩ := h.ιH ha
    rw [x.pn a o ho]; exact h.ιp a ha) fun a ha => by
      obtain ⟨e1, _, _, o, ho⟩ := h.mineP ha
      rw [x.pn a o ho]; exact e1
  refine ⟨⟨⟨⟨[], by simp⟩, x.pp⟩, fun a o e => x.pn a o (h.z a o e)⟩, h2, ?_⟩
  have xw := x.w
  cases w with
  | d d => exact xw
  | nw c =>
    obtain ⟨a, rfl, e1, e2, hc⟩ := xw
    refine ⟨a, rfl, e2, ?_, fun ha => ?_, fun hm => ?_, hc⟩
    · cases q : Z a with
      | none => rfl
      | some u => rw [h.z a u q] at e1; cases e1
    · obtain ⟨o, ho⟩ := h.ιH ha
      rw [ho] at e1; cases e1
    · obtain ⟨_, _, _, o, ho⟩ := h.mineP hm
      rw [ho] at e1; cases e1
end

/-! ### names, constants -/
def cC (d : D) : S → Res D := fun s => .ok d s
def cVar (i : Nat) : S → Res D := fun s => match s.env[i]? with
  | some (.d d) => .ok d s
  | some (.own c) => .ok c.fz ⟨s.env.set i (.d c.fz), s.st⟩
  | _ => .stuck
/-- the name's object, shared -/
def cRef (i : Nat) : S → Res D := fun s => match s.env[i]? with
  | some (.d d) => .ok d s
  | some (.own c) => .ok (.ref s.st.length) ⟨s.env.set i (.d (.ref s.st.length)), s.st ++ [c]⟩
  | _ => .stuck
section
variable {X : Cx} {W : WX} {e : Expr} {pos : Pos}
theorem jd_c {v : V} {d : D} (h : PE X e (tC v)) (r : ∀ ι P, Rep X.K ι P d v) : JD X W e (cC d) := pe_weak h fun σ H Q ⟨s, ι, P, Z, hS, hO⟩ => Out.ok hO hS (r ι P)
theorem jd_int {i : Int} {j} : JD X W (.Constant (.int i) j pos) (cC (.int i)) := jd_c pe_int fun _ _ => by unfold Rep; rfl
theorem jd_bl {b j} : JD X W (.Constant (.bool b) j pos) (cC (.bl b)) := jd_c pe_bl fun _ _ => by unfold Rep; rfl
theorem jd_non {j} : JD X W (.Constant .none j pos) (cC .non) := jd_c pe_non fun _ _ => by unfold Rep; rfl
theorem jd_str {x j} : JD X W (.Constant (.str x) j pos) (cC (.str x)) := jd_c pe_str fun _ _ => by unfold Rep; rfl
theorem jd_var {i : Nat} (h : PE X e (tVar i)) : JD X W e (cVar i) := pe_weak h fun σ H Q ⟨s, ι, P, Z, hS, hO⟩ => by
  unfold cVar at hO
  cases q : s.env[i]? with
  | none => rw [q] at hO; exact hO.elim
  | some sl =>
    rw [q] at hO
    cases sl with
    | no => exact hO.elim
    | d d =>
      obtain ⟨v, e1, r⟩ := hS.env i _ q
      exact ⟨v, e1, Out.ok hO hS r⟩
    | own c =>
      obtain ⟨a, P', e1, x, h1, r⟩ := hS.freeze q
      exact ⟨.ref a, e1, Out.okX hO x h1 r⟩
theorem jd_ref {i : Nat} (h : PE X e (tVar i)) : JD X W e (cRef i) := pe_weak h fun σ H Q ⟨s, ι, P, Z, hS, hO⟩ => by
  unfold cRef at hO
  cases q : s.env[i]? with
  | none => rw [q] at hO; exact hO.elim
  | some sl =>
    rw [q] at hO
    cases sl with
    | no => exact hO.elim
    | d d =>
      obtain ⟨v, e1, r⟩ := hS.env i _ q
      exact ⟨v, e1, Out.ok hO hS r⟩
    | own c =>
      obtain ⟨a, e1, x, h1, r⟩ := hS.share q
      exact ⟨.ref a, e1, Out.okX hO x h1 r⟩
/-- a tree from a worked out value, and back -/
def cFz (f : S → Res Wv) : S → Res D := fun s => (f s).map Wv.fz
def cD (f : S → Res D) : S → Res Wv := fun s => (f s).map Wv.d
theorem jd_fz {f : S → Res Wv} (h : JW X W e f) : JD X W e (cFz f) := pe_weak h fun σ H Q ⟨s, ι, P, Z, hS, hO⟩ =>
  tR_bind hS hO fun a s1 b H1 ι1 P1 x1 S1 r1 o1 => by
    obtain ⟨P2, x2, h2, r2⟩ := S1.fz r1
    exact Out.okX o1 x2 h2 r2
theorem jw_d {f : S → Res D} (h : JD X W e f) : JW X W e (cD f) := pe_weak h fun σ H Q ⟨s, ι, P, Z, hS, hO⟩ =>
  tR_bind hS hO fun a s1 b H1 ι1 P1 x1 S1 r1 o1 => Out.ok o1 S1 r1
end
end PL
end

section
set_option Elab.async false
set_option linter.all false
set_option maxRecDepth 100000
set_option maxHeartbeats 2000000
namespace PL
open PySem PySem.Spec PyProof.Rows L2

/-! ### operands: a name's own object is looked at where it stands -/
inductive Opd where
  | v (i : Nat) | e (f : S → Res D)
/-- the tree behind a reference -/
def derf (s : S) : D → Option D
  | .ref n => (s.st[n]?).map Cell.fz
  | d => some d
def peek (s : S) (i : Nat) : Option D := match s.env[i]? with
  | some (.d d) => derf s d
  | some (.own c) => some c.fz
  | _ => none
def Opd.run : Opd → S → Res (Option D)
  | .v i, s => (match s.env[i]? with
    | some (.d _) => .ok none s
    | some (.own _) => .ok none s
    | _ => .stuck)
  | .e f, s => (f s).map some
def Opd.get : Opd → Option D → S → Option D
  | .v i, _, s => peek s i
  | .e _, some d, s => derf s d
  | .e _, none, _ => none
def RO (K : PySem.W.Frag) (o : Opd) : RT (Option D) V := fun Z σ ι P H s x v => match o, x with
  | .v i, _ => σ[i]? = some (some v)
  | .e _, some d => Rep K ι P d v
  | .e _, none => False
abbrev JO (X : Cx) (W : WX) (e : Expr) (o : Opd) : Prop := PE X e (tR X.K (RO X.K o) W o.run)
/-- the value as it stands in H -/
def View (K : PySem.W.Frag) (ι : List Addr) (P H : Hp) : D → V → Prop
  | .lst xs, v => ∃ a vs, v = .ref a ∧ H a = some (.lst vs) ∧ Reps K ι P xs vs
  | .ins C fs xs, v => ∃ a dx vs, v = .ref a ∧ H a = some (.ins (He.ga K C) dx (fs.zip vs)) ∧ fs.length = vs.length ∧ Reps K ι P xs vs
  | .dK ks xs, v => ∃ a vs, v = .ref a ∧ L2.Rd H a (.dK (ks.zip vs)) ∧ ks.length = vs.length ∧ Reps K ι P xs vs
  | .dT ks xs, v => ∃ a vs, v = .ref a ∧ L2.Rd H a (.dT (ks.zip vs)) ∧ ks.length = vs.length ∧ Reps K ι P xs vs
  | d, v => Rep K ι P d v
section
variable {K : PySem.W.Frag} {Z : Hp} {ι ι' : List Addr} {P P' H : Hp} {s : S} {σ : L2.St} {a : Addr} {v : V}
theorem Rep.view (hp : ∀ a o, P a = some o → H a = some o) : ∀ {d : D}, Rep K ι P d v → View K ι P H d v := by
  intro d r
  cases d with
  | lst xs => unfold Rep at r; obtain ⟨a, vs, e, h, q⟩ := r; exact ⟨a, vs, e, hp _ _ h, q⟩
  | ins C fs xs => unfold Rep at r; obtain ⟨a, dx, vs, e, h, l, q⟩ := r; exact ⟨a, dx, vs, e, hp _ _ h, l, q⟩
  | dK ks xs => unfold Rep at r; obtain ⟨a, vs, e, h, l, q⟩ := r; exact ⟨a, vs, e, Rd.mono hp h, l, q⟩
  | dT ks xs => unfold Rep at r; obtain ⟨a, vs, e, h, l, q⟩ := r; exact ⟨a, vs, e, Rd.mono hp h, l, q⟩
  | _ => exact r
theorem CellAt.view : ∀ {c : Cell}, CellAt K ι P H a c → View K ι P H c.fz (.ref a)
  | .lst xs, ⟨vs, e, r⟩ => ⟨a, vs, rfl, e, r⟩
  | .dK kvs, ⟨vs, e, r⟩ => ⟨a, vs, rfl, .inl e, by simpa using r.length, r⟩
  | .dT kvs, ⟨vs, e, r⟩ => ⟨a, vs, rfl, .inl e, by simpa using r.length, r⟩
  | .ins C fs, ⟨dx, vs, e, r⟩ => ⟨a, dx, vs, rfl, e, by simpa using r.length, r⟩
theorem SRel.derf (h : SRel K Z ι P H s σ) {d d' : D} (e : derf s d = some d') (r : Rep K ι P d v) : View K ι P H d' v := by
  cases d with
  | ref n =>
    simp only [PL.derf] at e
    unfold Rep at r
    obtain ⟨a, rfl, ha⟩ := r
    cases q : s.st[n]? with
    | none => rw [q] at e; cases e
    | some c =>
      rw [q] at e
      cases e
      obtain ⟨b, hb, hc⟩ := h.cells n c q
      rw [ha] at hb; cases hb
      exact hc.view
  | _ => cases e; exact Rep.view h.p r
theorem SRel.peek (h : SRel K Z ι P H s σ) {i : Nat} {d : D} (e : peek s i = some d) (ev : σ[i]? = some (some v)) : View K ι P H d v := by
  unfold PL.peek at e
  cases q : s.env[i]? with
  | none => rw [q] at e; cases e
  | some sl =>
    rw [q] at e
    cases sl with
    | no => cases e
    | d d =>
      obtain ⟨u, e1, r⟩ := h.env i _ q
      rw [ev] at e1; cases e1
      exact h.derf e r
    | own c =>
      cases e
      obtain ⟨a, e1, _, _, _, hc⟩ := (h.env i _ q).ex
      rw [ev] at e1; cases e1
      exact hc.view
theorem RO.mono {o : Opd} {x : Option D} {H0 H1 : Hp} {s0 s1 : S} (r : RO K o Z σ ι P H0 s0 x v) (e : XZ Z ι P ι' P') : RO K o Z σ ι' P' H1 s1 x v := by
  cases o with
  | v i => exact r
  | e f => cases x with
    | none => exact r
    | some d => exact Rep.mono e.x d v r
theorem RO.view {o : Opd} {x : Option D} {d : D} {H0 : Hp} {s0 : S} (h : SRel K Z ι P H s σ) (r : RO K o Z σ ι P H0 s0 x v) (e : o.get x s = some d) : View K ι P H d v := by
  cases o with
  | v i => exact h.peek (i := i) e r
  | e f => cases x with
    | none => cases e
    | some d' => exact h.derf (d := d') e r
end
section
variable {X : Cx} {W : WX} {e : Expr} {pos : Pos}
theorem jo_v {i : Nat} (h : PE X e (tVar i)) : JO X W e (.v i) := pe_weak h fun σ H Q ⟨s, ι, P, Z, hS, hO⟩ => by
  unfold Opd.run at hO
  dsimp only at hO
  cases q : s.env[i]? with
  | none => rw [q] at hO; exact hO.elim
  | some sl =>
    rw [q] at hO
    cases sl with
    | no => exact hO.elim
    | d d =>
      obtain ⟨v, e1, r⟩ := hS.env i _ q
      exact ⟨v, e1, Out.ok hO hS e1⟩
    | own c =>
      obtain ⟨a, e1, _⟩ := (hS.env i _ q).ex
      exact ⟨_, e1, Out.ok hO hS e1⟩
theorem jo_e {f : S → Res D} (h : JD X W e f) : JO X W e (.e f) := pe_weak h fun σ H Q ⟨s, ι, P, Z, hS, hO⟩ =>
  tR_bind hS hO fun a s1 b H1 ι1 P1 x1 S1 r1 o1 => Out.ok o1 S1 r1
end

/-! ### one, two operands, and an operation that changes nothing that stood -/
/-- what an operation on values gives, by trees -/
def Good1 (K : PySem.W.Frag) (r : V → Hp → VK → Prop) (g : D → Option Wv) : Prop :=
  ∀ {ι : List Addr} {P H : Hp} {d : D} {w : Wv} {v : V} {Q : VK}, (∀ a o, P a = some o → H a = some o) → g d = some w → View K ι P H d v →
    (∀ v' P' H', Done K ι P H w v' P' H' → Q v' H') → r v H Q
def Good2 (K : PySem.W.Frag) (r : R2) (g : D → D → Option Wv) : Prop :=
  ∀ {ι : List Addr} {P H : Hp} {d1 d2 : D} {w : Wv} {v1 v2 : V} {Q : VK}, (∀ a o, P a = some o → H a = some o) → g d1 d2 = some w → View K ι P H d1 v1 → View K ι P H d2 v2 →
    (∀ v' P' H', Done K ι P H w v' P' H' → Q v' H') → r v1 v2 H Q
def cOp1 (g : D → Option Wv) (o : Opd) : S → Res Wv := fun s => (o.run s).bind fun x s1 => match o.get x s1 with
  | some d => Res.lift (g d) s1
  | none => .stuck
def cOp2 (g : D → D → Option Wv) (o1 o2 : Opd) : S → Res Wv := fun s => (o1.run s).bind fun x1 s1 => (o2.run s1).bind fun x2 s2 => match o1.get x1 s2, o2.get x2 s2 with
  | some d1, some d2 => Res.lift (g d1 d2) s2
  | _, _ => .stuck
section
variable {X : Cx} {W : WX} {a b e : Expr} {pos : Pos} {K : PySem.W.Frag} {Z : Hp} {ι : List Addr} {P H : Hp} {s : S} {σ : L2.St}
theorem op1_t {o : Opd} {r : V → Hp → VK → Prop} {g : D → Option Wv} (G : Good1 K r g) {Q : VK} (h : tW K W (cOp1 g o) σ H Q) : tUn r (tR K (RO K o) W o.run) σ H Q := by
  obtain ⟨s, ι, P, Z, hS, hO⟩ := h
  refine tR_bind hS hO fun x s1 v H1 ι1 P1 x1 S1 r1 o1 => ?_
  try dsimp only at o1
  cases q : o.get x s1 with
  | none => rw [q] at o1; exact o1.elim
  | some d =>
    rw [q] at o1
    try dsimp only at o1
    cases q2 : g d with
    | none => rw [q2] at o1; exact o1.elim
    | some w =>
      rw [q2] at o1
      refine G S1.p q2 (RO.view S1 r1 q) fun v' P' H' dn => ?_
      obtain ⟨xz, S2, rw2⟩ := S1.done dn
      exact Out.okX o1 xz S2 rw2
theorem op2_t {o1 o2 : Opd} {r : R2} {g : D → D → Option Wv} (G : Good2 K r g) {Q : VK} (h : tW K W (cOp2 g o1 o2) σ H Q) : tOp r (tR K (RO K o1) W o1.run) (tR K (RO K o2) W o2.run) σ H Q := by
  obtain ⟨s, ι, P, Z, hS, hO⟩ := h
  refine tR_bind hS hO fun x1 s1 v1 H1 ι1 P1 e1 S1 r1 h1 => ?_
  refine tR_bind S1 h1 fun x2 s2 v2 H2 ι2 P2 e2 S2 r2 h2 => ?_
  try dsimp only at h2
  cases q : o1.get x1 s2 with
  | none => rw [q] at h2; exact h2.elim
  | some d1 =>
    cases q' : o2.get x2 s2 with
    | none => rw [q, q'] at h2; exact h2.elim
    | some d2 =>
      rw [q, q'] at h2
      try dsimp only at h2
      cases q2 : g d1 d2 with
      | none => rw [q2] at h2; exact h2.elim
      | some w =>
        rw [q2] at h2
        refine G S2.p q2 (RO.view (H0 := H1) (s0 := s1) S2 (r1.mono e2) q) (RO.view S2 r2 q') fun v' P' H' dn => ?_
        obtain ⟨xz, S3, rw3⟩ := S2.done dn
        exact Out.okX h2 xz S3 rw3
theorem jw_bin {op : Operator} {o1 o2 : Opd} {r : R2} {g : D → D → Option Wv} (ho : OpR X (binaryOp op) r) (G : Good2 X.K r g) (ha : JO X W a o1) (hb : JO X W b o2) : JW X W (.BinOp a op b pos) (cOp2 g o1 o2) :=
  pe_weak (pe_op ho ha hb) fun _ _ _ h => op2_t G h
theorem jw_un {op : UnaryOp} {o : Opd} {r : V → Hp → VK → Prop} {g : D → Option Wv} (ho : UnR X (unaryOp op) r) (G : Good1 X.K r g) (ha : JO X W a o) : JW X W (.UnaryOp op a pos) (cOp1 g o) :=
  pe_weak (pe_un ho ha) fun _ _ _ h => op1_t G h
theorem jw_cmp {op : CmpOp} {o1 o2 : Opd} {r : R2} {g : D → D → Option Wv} (ho : OpR X (compareOp op) r) (G : Good2 X.K r g) (ha : JO X W a o1) (hb : JO X W b o2) (hm : behindInMarks op b = false) : JW X W (.Compare a [op] [b] pos) (cOp2 g o1 o2) :=
  pe_weak (pe_cmpR ho ha hb hm) fun _ _ _ h => op2_t G h
/-- a worked out bool, as a test -/
def Wv.bl? : Wv → Option Bool
  | .d (.bl b) => some b
  | _ => none
def cB (f : S → Res Wv) : S → Res Bool := fun s => (f s).bind fun w s1 => Res.lift w.bl? s1
theorem cB_t {f : S → Res Wv} {Q : Bool → Hp → Prop} (h : tB' K W (cB f) σ H Q) : tW K W f σ H fun x H1 => ∃ k, x = .bl k ∧ Q k H1 := by
  obtain ⟨s, ι, P, Z, hS, hO⟩ := h
  refine tR_bind hS hO fun w s1 v H1 ι1 P1 x1 S1 r1 o1 => ?_
  cases w with
  | nw c => exact o1.elim
  | d d => cases d with
    | bl b =>
      have e : v = .bl b := by have := r1; unfold RW WRep Rep at this; exact this
      exact ⟨b, e, Out.ok o1 S1 rfl⟩
    | _ => exact o1.elim
theorem jt_cmp {op : CmpOp} {o1 o2 : Opd} {r : R2} {g : D → D → Option Wv} (ho : OpR X (compareOp op) r) (G : Good2 X.K r g) (ha : JO X W a o1) (hb : JO X W b o2) (hm : behindInMarks op b = false) : JT X W (.Compare a [op] [b] pos) (cB (cOp2 g o1 o2)) :=
  pt_weak (pt_cmpR ho ha hb hm) fun σ H Q h => by
    exact op2_t G (cB_t h)
theorem jt_val {f : S → Res Wv} (h : JW X W e f) (he : ∀ whole, isTrue e X.env whole = (do let v ← whole; standAt e.pos; holding [v] (truthy v)) := by intro _; rfl) : JT X W e (cB f) :=
  pt_weak (pt_val h he) fun σ H Q h => cB_t h

/-! ### and, or, not; if .. else -/
def cAnd (f g : S → Res Bool) : S → Res Bool := fun s => (f s).bind fun b s1 => if b = true then g s1 else .ok false s1
def cOr (f g : S → Res Bool) : S → Res Bool := fun s => (f s).bind fun b s1 => if b = true then .ok true s1 else g s1
def cNot (f : S → Res Bool) : S → Res Bool := fun s => (f s).map fun b => !b
def cIf {α : Type} (c : S → Res Bool) (f g : S → Res α) : S → Res α := fun s => (c s).bind fun b s1 => if b = true then f s1 else g s1
def cW (f : S → Res Bool) : S → Res Wv := fun s => (f s).map fun b => .d (.bl b)
theorem jtw_and1 {f : S → Res Bool} (h : JT X W a f) : JTW X W (.BoolOp .And [a] pos) f := pw_and1 h
theorem jtw_or1 {f : S → Res Bool} (h : JT X W a f) : JTW X W (.BoolOp .Or [a] pos) f := pw_or1 h
variable {rest : List Expr}
theorem jtw_and {f g : S → Res Bool} (h : JT X W a f) (h' : JTW X W (.BoolOp .And (b :: rest) pos) g) : JTW X W (.BoolOp .And (a :: b :: rest) pos) (cAnd f g) :=
  pw_weak (pw_and h h') fun σ H Q ⟨s, ι, P, Z, hS, hO⟩ => tR_bind hS hO fun x s1 v H1 ι1 P1 x1 S1 r1 o1 => by
    have e : v = x := r1
    subst e
    cases v with
    | true => rw [if_pos rfl]; exact ⟨s1, ι1, P1, Z, S1, o1⟩
    | false => rw [if_neg (by decide)]; exact Out.ok o1 S1 rfl
theorem jtw_or {f g : S → Res Bool} (h : JT X W a f) (h' : JTW X W (.BoolOp .Or (b :: rest) pos) g) : JTW X W (.BoolOp .Or (a :: b :: rest) pos) (cOr f g) :=
  pw_weak (pw_or h h') fun σ H Q ⟨s, ι, P, Z, hS, hO⟩ => tR_bind hS hO fun x s1 v H1 ι1 P1 x1 S1 r1 o1 => by
    have e : v = x := r1
    subst e
    cases v with
    | true => rw [if_pos rfl]; exact Out.ok o1 S1 rfl
    | false => rw [if_neg (by decide)]; exact ⟨s1, ι1, P1, Z, S1, o1⟩
theorem jt_w {f : S → Res Bool} (h : JTW X W e f) : JT X W e f := h.pt
theorem jt_not {f : S → Res Bool} (h : JT X W a f) : JT X W (.UnaryOp .Not a pos) (cNot f) :=
  pt_weak (pt_not h) fun σ H Q ⟨s, ι, P, Z, hS, hO⟩ => tR_bind hS hO fun x s1 v H1 ι1 P1 x1 S1 r1 o1 => by
    have e : v = x := r1
    subst e
    exact Out.ok o1 S1 rfl
theorem jw_if {c : Expr} {t : S → Res Bool} {f g : S → Res Wv} (hc : JT X W c t) (ha : JW X W a f) (hb : JW X W b g) : JW X W (.IfExp c a b pos) (cIf t f g) :=
  pe_weak (pe_ifExp hc ha hb) fun σ H Q ⟨s, ι, P, Z, hS, hO⟩ => tR_bind hS hO fun x s1 v H1 ι1 P1 x1 S1 r1 o1 => by
    have e : v = x := r1
    subst e
    cases v with
    | true => rw [if_pos rfl]; exact ⟨s1, ι1, P1, Z, S1, o1⟩
    | false => rw [if_neg (by decide)]; exact ⟨s1, ι1, P1, Z, S1, o1⟩
/-- a and b, a or b, not a, as values, all of them bools but the last -/
def cAndV (f g : S → Res Wv) : S → Res Wv := fun s => (f s).bind fun w s1 => match w.bl? with
  | some true => g s1
  | some false => .ok (.d (.bl false)) s1
  | none => .stuck
def cOrV (f g : S → Res Wv) : S → Res Wv := fun s => (f s).bind fun w s1 => match w.bl? with
  | some true => .ok (.d (.bl true)) s1
  | some false => g s1
  | none => .stuck
def cNotV (f : S → Res Wv) : S → Res Wv := fun s => (f s).bind fun w s1 => match w.bl? with
  | some b => .ok (.d (.bl (!b))) s1
  | none => .stuck
theorem bl_of {w : Wv} {v : V} {b : Bool} (e : w.bl? = some b) (r : WRep K Z ι P H s σ w v) : v = .bl b := by
  cases w with
  | nw c => cases e
  | d d => cases d with
    | bl c => cases e; unfold WRep Rep at r; exact r
    | _ => cases e
theorem rep_bl {b : Bool} : Rep K ι P (.bl b) (.bl b) := by unfold Rep; rfl
theorem rep_int {b : Int} : Rep K ι P (.int b) (.int b) := by unfold Rep; rfl
theorem rep_str {b : Str} : Rep K ι P (.str b) (.str b) := by unfold Rep; rfl
theorem rep_non : Rep K ι P .non .non := by unfold Rep; rfl
theorem rw_bl {b : Bool} : RW K Z σ ι P H s (.d (.bl b)) (.bl b) := by unfold RW WRep Rep; rfl
theorem jw_one {op} {f : S → Res Wv} (h : JW X W a f) : JW X W (.BoolOp op [a] pos) f := pe_one h
theorem jw_and {f g : S → Res Wv} (h : JW X W a f) (h' : JW X W (.BoolOp .And (b :: rest) pos) g) : JW X W (.BoolOp .And (a :: b :: rest) pos) (cAndV f g) :=
  pe_weak (pe_and h h') fun σ H Q ⟨s, ι, P, Z, hS, hO⟩ => tR_bind hS hO fun w s1 v H1 ι1 P1 x1 S1 r1 o1 => by
    try dsimp only at o1
    cases q : w.bl? with
    | none => rw [q] at o1; exact o1.elim
    | some k =>
      have e := bl_of q r1
      rw [q] at o1
      refine ⟨k, e, ?_⟩
      cases k with
      | true => rw [if_pos rfl]; exact ⟨s1, ι1, P1, Z, S1, o1⟩
      | false => rw [if_neg (by decide)]; exact Out.ok o1 S1 rw_bl
theorem jw_or {f g : S → Res Wv} (h : JW X W a f) (h' : JW X W (.BoolOp .Or (b :: rest) pos) g) : JW X W (.BoolOp .Or (a :: b :: rest) pos) (cOrV f g) :=
  pe_weak (pe_or h h') fun σ H Q ⟨s, ι, P, Z, hS, hO⟩ => tR_bind hS hO fun w s1 v H1 ι1 P1 x1 S1 r1 o1 => by
    try dsimp only at o1
    cases q : w.bl? with
    | none => rw [q] at o1; exact o1.elim
    | some k =>
      have e := bl_of q r1
      rw [q] at o1
      refine ⟨k, e, ?_⟩
      cases k with
      | true => rw [if_pos rfl]; exact Out.ok o1 S1 rw_bl
      | false => rw [if_neg (by decide)]; exact ⟨s1, ι1, P1, Z, S1, o1⟩
theorem jw_not {f : S → Res Wv} (h : JW X W a f) : JW X W (.UnaryOp .Not a pos) (cNotV f) :=
  pe_weak (pe_not h) fun σ H Q ⟨s, ι, P, Z, hS, hO⟩ => tR_bind hS hO fun w s1 v H1 ι1 P1 x1 S1 r1 o1 => by
    try dsimp only at o1
    cases q : w.bl? with
    | none => rw [q] at o1; exact o1.elim
    | some k =>
      have e := bl_of q r1
      rw [q] at o1
      exact ⟨k, e, Out.ok o1 S1 rw_bl⟩
end
end PL
end

section
set_option Elab.async false
set_option linter.all false
set_option maxRecDepth 100000
set_option maxHeartbeats 2000000
namespace PL
open PySem PySem.Spec PyProof.Rows L2

def Wv.sl : Wv → Sl
  | .d x => .d x
  | .nw x => .own x
def setW (i : Nat) (w : Wv) (s : S) : S := ⟨s.env.set i w.sl, s.st⟩
def sSeq (f g : S → Fl) : S → Fl := fun s => (f s).bind g
def sIf (c : S → Res Bool) (f g : S → Fl) : S → Fl := fun s => (c s).fl fun b s1 => if b = true then f s1 else g s1
def sSet (i : Nat) (f : S → Res Wv) : S → Fl := fun s => (f s).fl fun w s1 => .nx (setW i w s1)
def sRet (f : S → Res Wv) : S → Fl := fun s => (f s).fl fun w s1 => .rt w s1
def sRetN : S → Fl := fun s => .rt (.d .non) s
def sRetV (i : Nat) : S → Fl := fun s => match s.env[i]? with
  | some (.d d) => .rt (.d d) s
  | some (.own c) => .rt (.nw c) ⟨s.env.set i .no, s.st⟩
  | _ => .stuck
def sExpr (f : S → Res Wv) : S → Fl := fun s => (f s).fl fun _ s1 => .nx s1
def sPass : S → Fl := fun s => .nx s
def sBreak : S → Fl := fun s => .bk s
def sCont : S → Fl := fun s => .ct s
def sNever : S → Fl := fun _ => .stuck
def whileL (c : S → Res Bool) (b : S → Fl) : Nat → S → Fl
  | 0, _ => .stuck
  | n + 1, s => (c s).fl fun k s1 => if k = true then (match b s1 with
    | .nx s2 => whileL c b n s2
    | .ct s2 => whileL c b n s2
    | .bk s2 => .nx s2
    | .rt w s2 => .rt w s2
    | .err x s2 => .err x s2
    | .stuck => .stuck) else .nx s1
def sWhile (n : Nat) (c : S → Res Bool) (b : S → Fl) : S → Fl := whileL c b n
abbrev Tg := D → S → Option S
def forL (g : Tg) (b : S → Fl) : List D → S → Fl
  | [], s => .nx s
  | d :: ds, s => (match g d s with
    | none => .stuck
    | some s1 => (match b s1 with
      | .nx s2 => forL g b ds s2
      | .ct s2 => forL g b ds s2
      | .bk s2 => .nx s2
      | .rt w s2 => .rt w s2
      | .err x s2 => .err x s2
      | .stuck => .stuck))
def sFor (it : S → Res (List D)) (g : Tg) (b : S → Fl) : S → Fl := fun s => (it s).fl fun ds s1 => forL g b ds s1
def gN (i : Nat) : Tg := fun d s => some ⟨s.env.set i (.d d), s.st⟩
def gAll : List Tg → List D → S → Option S
  | [], [], s => some s
  | g :: gs, d :: ds, s => (g d s).bind (gAll gs ds)
  | _, _, _ => none
def gT (gs : List Tg) : Tg := fun d s => match d with
  | .tup ds => gAll gs ds s
  | _ => none
def sUnp (f : S → Res D) (g : Tg) : S → Fl := fun s => (f s).fl fun d s1 => match g d s1 with
  | some s2 => .nx s2
  | none => .stuck

/-- n is how far an iterator that gives ds goes -/
def ItOK (K : PySem.W.Frag) (J : It) (ds : List D) (ι : List Addr) (P : Hp) : Prop :=
  ∀ (ι' : List Addr) (P' H : Hp), Ext ι P ι' P' → (∀ a o, P' a = some o → H a = some o) →
    (∀ i d, ds[i]? = some d → J.go i H ∧ ∀ x H', J.yld i H x H' → ∃ P'', Done K ι' P' H (.d d) x P'' H') ∧ J.stop ds.length H
def RI (K : PySem.W.Frag) : RT (List D) It := fun _ _ ι P _ _ ds J => ItOK K J ds ι P
abbrev JI (X : Cx) (W : WX) (tg iter : Expr) (f : S → Res (List D)) : Prop := PI X tg iter (tR X.K (RI X.K) W f)
def tG (K : PySem.W.Frag) (g : Tg) : TG := fun v σ H Q => ∃ (s : S) (ι : List Addr) (P Z : Hp) (d : D), SRel K Z ι P H s σ ∧ Rep K ι P d v ∧ match g d s with
  | some s1 => ∀ (σ' : L2.St) (H' : Hp) (ι' : List Addr) (P' : Hp), XZ Z ι P ι' P' → SRel K Z ι' P' H' s1 σ' → Q σ' H'
  | none => False
def tGs (K : PySem.W.Frag) (gs : List Tg) : TGs := fun vs σ H Q => ∃ (s : S) (ι : List Addr) (P Z : Hp) (ds : List D), SRel K Z ι P H s σ ∧ Reps K ι P ds vs ∧ match gAll gs ds s with
  | some s1 => ∀ (σ' : L2.St) (H' : Hp) (ι' : List Addr) (P' : Hp), XZ Z ι P ι' P' → SRel K Z ι' P' H' s1 σ' → Q σ' H'
  | none => False
abbrev JG (X : Cx) (tg : Expr) (g : Tg) : Prop := PG X tg (tG X.K g)
abbrev JGs (X : Cx) (tgs : List Expr) (g : List Tg) : Prop := PGs X tgs (tGs X.K g)

section
variable {K : PySem.W.Frag} {W : WX} {Z : Hp} {ι ι1 : List Addr} {P P1 H : Hp} {s : S} {σ : L2.St} {v : V} {w : Wv} {i : Nat} {A : Ends}
theorem SRel.setW (h : SRel K Z ι P H s σ) (r : WRep K Z ι P H s σ w v) : SRel K Z ι P H (setW i w s) (σ.set i (some v)) := by
  by_cases hi : i < s.env.length
  · cases w with
    | d d => exact h.setD hi r
    | nw c =>
      obtain ⟨a, rfl, e1, e2, e3, e4, hc⟩ := r
      exact h.setOwn hi e1 e2 e3 e4 hc
  · have hi := Nat.le_of_not_lt hi
    unfold PL.setW
    rw [List.set_eq_of_length_le hi, List.set_eq_of_length_le (by rw [← h.elen]; exact hi)]
    exact h
theorem OutS.nxX {s1 : S} {σ' : L2.St} {H' : Hp} (h : OutS K W Z ι P A (.nx s1)) (x : XZ Z ι P ι1 P1) (hS : SRel K Z ι1 P1 H' s1 σ') : A.nx σ' H' := h σ' H' ι1 P1 x hS
theorem OutS.nx {s1 : S} {σ' : L2.St} {H' : Hp} (h : OutS K W Z ι P A (.nx s1)) (hS : SRel K Z ι P H' s1 σ') : A.nx σ' H' := h σ' H' ι P .refl hS
end
section
variable {X : Cx} {W : WX} {e c : Expr} {st : Stmt} {rest body : List Stmt} {pos : Pos} {f g : S → Fl} {t : S → Res Bool} {h : S → Res Wv}
theorem jss_nil : JSs X W [] sPass := pss_weak pss_nil fun A σ H ⟨s, ι, P, Z, hS, hO⟩ => OutS.nx hO hS
theorem jss_one (h1 : JS X W st f) : JSs X W [st] f := pss_one h1
theorem jss_cons (h1 : JS X W st f) (h2 : JSs X W rest g) : JSs X W (st :: rest) (sSeq f g) := pss_weak (pss_cons h1 h2) fun A σ H ⟨s, ι, P, Z, hS, hO⟩ => by
  refine ⟨s, ι, P, Z, hS, ?_⟩
  unfold sSeq at hO
  cases q : f s with
  | nx s1 =>
    rw [q] at hO
    exact fun σ' H' ι' P' x1 S1 => ⟨s1, ι', P', Z, S1, OutS.trans hO x1⟩
  | rt w s1 => rw [q] at hO; exact hO
  | bk s1 => rw [q] at hO; exact hO
  | ct s1 => rw [q] at hO; exact hO
  | err x s1 => rw [q] at hO; exact hO
  | stuck => rw [q] at hO; exact hO
theorem js_never : JS X W st sNever := ps_weak ps_never fun A σ H ⟨s, ι, P, Z, hS, hO⟩ => hO
theorem js_if {a b : List Stmt} (hc : JT X W c t) (ha : JSs X W a f) (hb : JSs X W b g) : JS X W (.If c a b pos) (sIf t f g) :=
  ps_weak (ps_if hc ha hb) fun A σ H ⟨s, ι, P, Z, hS, hO⟩ => tR_fl hS hO fun x s1 v H1 ι1 P1 x1 S1 r1 o1 => by
    have e : v = x := r1
    subst e
    cases v with
    | true => rw [if_pos rfl]; exact ⟨s1, ι1, P1, Z, S1, o1⟩
    | false => rw [if_neg (by decide)]; exact ⟨s1, ι1, P1, Z, S1, o1⟩
theorem js_setG {i : Nat} (h1 : PS X st (tAsg (tW X.K W h) (gName i))) : JS X W st (sSet i h) :=
  ps_weak h1 fun A σ H ⟨s, ι, P, Z, hS, hO⟩ => tR_fl hS hO fun x s1 v H1 ι1 P1 x1 S1 r1 o1 => OutS.nx o1 (S1.setW r1)
theorem js_set {i : Nat} {x : Str} {pos' : Pos} (hN : X.N.Nodup) (hi : X.N[i]? = some x) (hx : Loc X.env.scope x) (he : JW X W e h) (hs : swapsWith e (some (.Name x pos')) pos.line X.env = pure false := by rfl)
    (hf : X.fn x = true ∨ X.env.scope.names.lookup x = some .local := by first | exact .inl rfl | exact .inr rfl | assumption) : JS X W (.Assign [.Name x pos'] e pos) (sSet i h) := js_setG (ps_set hN hi hx he hs hf)
theorem js_ret (he : JW X W e h) : JS X W (.Return (some e) pos) (sRet h) :=
  ps_weak (ps_ret he) fun A σ H ⟨s, ι, P, Z, hS, hO⟩ => tR_fl hS hO fun x s1 v H1 ι1 P1 x1 S1 r1 o1 => o1 v σ H1 ι1 P1 .refl S1 r1
theorem js_retN : JS X W (.Return none pos) sRetN := ps_weak ps_retN fun A σ H ⟨s, ι, P, Z, hS, hO⟩ => hO .non σ H ι P .refl hS (by unfold WRep Rep; rfl)
theorem js_retV {i : Nat} (he : PE X e (tVar i)) : JS X W (.Return (some e) pos) (sRetV i) :=
  ps_weak (ps_ret he) fun A σ H ⟨s, ι, P, Z, hS, hO⟩ => by
    unfold sRetV at hO
    cases q : s.env[i]? with
    | none => rw [q] at hO; exact hO.elim
    | some sl =>
      rw [q] at hO
      cases sl with
      | no => exact hO.elim
      | d d =>
        obtain ⟨v, e1, r⟩ := hS.env i _ q
        exact ⟨v, e1, hO v σ H ι P .refl hS r⟩
      | own c =>
        obtain ⟨a, e1, r, S1⟩ := hS.letGo q
        exact ⟨_, e1, hO _ σ H ι P .refl S1 r⟩
theorem js_expr (he : JW X W e h) (hs : swapsWith e none pos.line X.env = pure false := by rfl) : JS X W (.Expr e pos) (sExpr h) :=
  ps_weak (ps_expr he hs) fun A σ H ⟨s, ι, P, Z, hS, hO⟩ => tR_fl hS hO fun x s1 v H1 ι1 P1 x1 S1 r1 o1 => OutS.nx o1 S1
theorem js_pass : JS X W (.Pass pos) sPass := ps_weak ps_pass fun A σ H ⟨s, ι, P, Z, hS, hO⟩ => OutS.nx hO hS
theorem js_break : JS X W (.Break pos) sBreak := ps_weak ps_break fun A σ H ⟨s, ι, P, Z, hS, hO⟩ => hO σ H ι P .refl hS
theorem js_cont : JS X W (.Continue pos) sCont := ps_weak ps_continue fun A σ H ⟨s, ι, P, Z, hS, hO⟩ => hO σ H ι P .refl hS
theorem js_while {n : Nat} (hp : PassesOwn (model X.prog X.w) X.A X.env X.xe) (hc : JT X W c t) (hb : JSs X W body f) : JS X W (.While c body [] pos) (sWhile n t f) :=
  ps_weak (ps_while hp hc hb) fun A σ H ⟨s, ι, P, Z, hS, hO⟩ => by
    refine ⟨fun m σ H => ∃ (s : S) (ι : List Addr) (P : Hp), SRel X.K Z ι P H s σ ∧ OutS X.K W Z ι P A (whileL t f m s), ⟨n, s, ι, P, hS, hO⟩, ?_⟩
    rintro m σ H ⟨s, ι, P, hS, hO⟩
    cases m with
    | zero => exact hO.elim
    | succ m =>
      refine tR_fl hS hO fun k s1 v H1 ι1 P1 x1 S1 r1 o1 => ?_
      have e : v = k := r1
      subst e
      cases v with
      | false => rw [if_neg (by decide)]; exact OutS.nx o1 S1
      | true =>
        rw [if_pos rfl]
        rw [if_pos rfl] at o1
        refine ⟨fun σ' H' => ∃ (s : S) (ι : List Addr) (P : Hp), SRel X.K Z ι P H' s σ' ∧ OutS X.K W Z ι P A (whileL t f m s), fun σ' H' q => ⟨m, Nat.lt_succ_self m, q⟩, s1, ι1, P1, Z, S1, ?_⟩
        cases q : f s1 with
        | nx s2 => rw [q] at o1; exact fun σ' H' ι' P' x2 S2 => ⟨s2, ι', P', S2, OutS.trans o1 x2⟩
        | ct s2 => rw [q] at o1; exact fun σ' H' ι' P' x2 S2 => ⟨s2, ι', P', S2, OutS.trans o1 x2⟩
        | bk s2 => rw [q] at o1; exact o1
        | rt w s2 => rw [q] at o1; exact o1
        | err x s2 => rw [q] at o1; exact o1
        | stuck => rw [q] at o1; exact o1
/-! targets -/
theorem jg_name {i : Nat} (h : PG X e (gName i)) : JG X e (gN i) := ⟨fun pins s σ H v u Q I r q => h.run pins s σ H v u Q I r (by
  obtain ⟨s, ι, P, Z, d, hS, hr, k⟩ := q
  exact k _ _ ι P .refl (SRel.setW (w := .d d) hS hr))⟩
theorem jgs_nil : JGs X [] [] := ⟨fun pins s σ H vs us Q I r q => pgs_nil.run pins s σ H vs us Q I r (by
  obtain ⟨s, ι, P, Z, ds, hS, hr, k⟩ := q
  cases ds with
  | nil => unfold Reps at hr; exact ⟨hr, k _ _ ι P .refl hS⟩
  | cons d ds => exact k.elim)⟩
theorem jgs_cons {es : List Expr} {g : Tg} {gs : List Tg} (h1 : JG X e g) (h2 : JGs X es gs)
    (hs : (assignEach (e :: es) X.env).map (·.2) = assign e X.env :: (assignEach es X.env).map (·.2) := by rfl) : JGs X (e :: es) (g :: gs) := ⟨fun pins s σ H vs us Q I r q => (pgs_cons h1 h2 hs).run pins s σ H vs us Q I r (by
  obtain ⟨s, ι, P, Z, ds, hS, hr, k⟩ := q
  cases ds with
  | nil => exact k.elim
  | cons d ds =>
    obtain ⟨v, rv, rfl, hv, hr⟩ := hr.uncons
    refine ⟨v, _, rfl, s, ι, P, Z, d, hS, hv, ?_⟩
    simp only [gAll] at k
    cases e1 : g d s with
    | none => rw [e1] at k; exact k.elim
    | some s1 =>
      rw [e1] at k
      simp only [Option.bind_some] at k
      intro σ' H' ι' P' x1 S1
      refine ⟨s1, ι', P', Z, ds, S1, hr.mono x1.x, ?_⟩
      cases e2 : gAll gs ds s1 with
      | none => rw [e2] at k; exact k.elim
      | some s2 =>
        rw [e2] at k
        exact fun σ2 H2 ι2 P2 x2 S2 => k σ2 H2 ι2 P2 (x1.trans x2) S2)⟩
theorem jg_tup {es : List Expr} {k : Nat} {gs : List Tg} {n : Nat} (hc : X.calm = true) (h : JGs X es gs)
    (hn : (assignEach es X.env).length = n := by rfl) (hst : (assignEach es X.env).findIdx? (·.1) = none := by rfl) (hgs : gs.length = n := by rfl) : JG X (.Tuple es k pos) (gT gs) := ⟨fun pins s σ H v u Q I r q => (pg_tup hc h hn hst).run pins s σ H v u Q I r (by
  obtain ⟨s, ι, P, Z, d, hS, hr, k⟩ := q
  cases d with
  | tup ds =>
    unfold Rep at hr
    obtain ⟨a, vs, rfl, ht, hr⟩ := hr
    refine ⟨a, vs, rfl, SqT.of (hS.p _ _ ht), ?_, s, ι, P, Z, ds, hS, hr, k⟩
    have : ∀ (gs : List Tg) (ds : List D) (s : S), (gAll gs ds s).isSome = true → gs.length = ds.length := by
      intro gs
      induction gs with
      | nil => intro ds s h; cases ds with
        | nil => rfl
        | cons => cases h
      | cons g gs ih => intro ds s h; cases ds with
        | nil => cases h
        | cons d ds =>
          simp only [gAll] at h
          cases q : g d s with
          | none => rw [q] at h; cases h
          | some s1 =>
            rw [q] at h
            simp only [Option.bind_some] at h
            simp [ih ds s1 h]
    rw [← hgs, this gs ds s ?_, hr.length]
    have k : (match gAll gs ds s with
      | some s1 => ∀ (σ' : L2.St) (H' : Hp) (ι' : List Addr) (P' : Hp), XZ Z ι P ι' P' → SRel X.K Z ι' P' H' s1 σ' → Q σ' H'
      | none => False) := k
    cases q : gAll gs ds s with
    | none => rw [q] at k; exact k.elim
    | some s1 => rfl
  | _ => exact k.elim)⟩
theorem js_unp {tg : Expr} {h : S → Res D} {g : Tg} (h1 : PS X st (tAsg (tD X.K W h) (tG X.K g))) : JS X W st (sUnp h g) :=
  ps_weak h1 fun A σ H ⟨s, ι, P, Z, hS, hO⟩ => tR_fl hS hO fun d s1 v H1 ι1 P1 x1 S1 r1 o1 => by
    refine ⟨s1, ι1, P1, Z, d, S1, r1, ?_⟩
    cases q : g d s1 with
    | none => simp only [q] at o1; exact o1.elim
    | some s2 => simp only [q] at o1; exact o1
/-! for -/
theorem js_for {tg iter : Expr} {it : S → Res (List D)} {g : Tg} (hp : PassesOwn (model X.prog X.w) X.A X.env X.xe) (hc : X.calm = true) (hi : JI X W tg iter it) (hg : JG X tg g) (hb : JSs X W body f)
    (hs : ∀ x, foldedSetIterable iter X.env x = pure x := by intro _; rfl) : JS X W (.For tg iter body [] pos) (sFor it g f) :=
  ps_weak (ps_for hp hc hi hg hb hs) fun A σ H ⟨s, ι, P, Z, hS, hO⟩ => tR_fl hS hO fun ds s1 J H1 ι1 P1 x1 S1 r1 o1 => by
    have r1 : ItOK X.K J ds ι1 P1 := r1
    refine ⟨fun i m σ H => m = ds.length - i ∧ i ≤ ds.length ∧ ∃ (s : S) (ι : List Addr) (P : Hp), XZ Z ι1 P1 ι P ∧ SRel X.K Z ι P H s σ ∧ OutS X.K W Z ι P A (forL g f (ds.drop i) s), ⟨ds.length, by simp, Nat.zero_le _, s1, ι1, P1, .refl, S1, by simpa using o1⟩, ?_⟩
    rintro i m σ H ⟨rfl, hi, s, ι, P, x, hS, hO⟩
    obtain ⟨r2, r3⟩ := r1 ι P H x.x hS.p
    by_cases hlt : i < ds.length
    · refine .inr ⟨(r2 i _ (List.getElem?_eq_getElem hlt)).1, fun σ' H' => ∃ (s : S) (ι : List Addr) (P : Hp), XZ Z ι1 P1 ι P ∧ SRel X.K Z ι P H' s σ' ∧ OutS X.K W Z ι P A (forL g f (ds.drop (i + 1)) s), fun σ' H' q => ⟨ds.length - (i + 1), by omega, rfl, hlt, q⟩, fun y H' hy => ?_⟩
      obtain ⟨P2, dn⟩ := (r2 i _ (List.getElem?_eq_getElem hlt)).2 y H' hy
      obtain ⟨x2, S2, w2⟩ := hS.done dn
      rw [List.drop_eq_getElem_cons hlt] at hO
      simp only [forL] at hO
      refine ⟨s, ι, P2, Z, ds[i], S2, w2, ?_⟩
      cases q : g ds[i] s with
      | none => rw [q] at hO; exact hO.elim
      | some s2 =>
        rw [q] at hO
        dsimp only at hO
        intro σ' H3 ι3 P3 x3 S3
        refine ⟨s2, ι3, P3, Z, S3, ?_⟩
        have hO := OutS.trans (OutS.trans hO x2) x3
        cases q2 : f s2 with
        | nx s4 => rw [q2] at hO; exact fun σ' H' ι' P' x4 S4 => ⟨s4, ι', P', x.trans (x2.trans (x3.trans x4)), S4, OutS.trans hO x4⟩
        | ct s4 => rw [q2] at hO; exact fun σ' H' ι' P' x4 S4 => ⟨s4, ι', P', x.trans (x2.trans (x3.trans x4)), S4, OutS.trans hO x4⟩
        | bk s4 => rw [q2] at hO; exact hO
        | rt w s4 => rw [q2] at hO; exact hO
        | err x s4 => rw [q2] at hO; exact hO
        | stuck => rw [q2] at hO; exact hO
    · have e : i = ds.length := by omega
      subst e
      rw [List.drop_length] at hO
      exact .inl ⟨r3, OutS.nx hO hS⟩
end
end PL
end

section
set_option Elab.async false
set_option linter.all false
set_option maxRecDepth 100000
set_option maxHeartbeats 2000000
namespace PL
open PySem PySem.Spec PyProof.Rows L2

/-! ### several values in a row -/
def cNil : S → Res (List D) := fun s => .ok [] s
def cCons (f : S → Res D) (g : S → Res (List D)) : S → Res (List D) := fun s => (f s).bind fun d s1 => (g s1).bind fun ds s2 => .ok (d :: ds) s2
section
variable {X : Cx} {W : WX} {e : Expr} {es : List Expr} {pos : Pos} {f : S → Res D} {g : S → Res (List D)}
theorem jl_nil : JL X W [] cNil := pa_weak pa_nil fun σ H Q ⟨s, ι, P, Z, hS, hO⟩ => Out.ok hO hS (by unfold RL Reps; rfl)
theorem jl_cons (h : JD X W e f) (h' : JL X W es g) (hs : starEach (e :: es) X.env = (false, eval e X.env) :: starEach es X.env := by rfl) : JL X W (e :: es) (cCons f g) :=
  pa_weak (pa_cons h h' hs) fun σ H Q ⟨s, ι, P, Z, hS, hO⟩ => tR_bind hS hO fun d s1 v H1 ι1 P1 x1 S1 r1 o1 => tR_bind S1 o1 fun ds s2 vs H2 ι2 P2 x2 S2 r2 o2 =>
    Out.ok o2 S2 (Reps.cons (Rep.mono x2.x _ _ r1) r2)
end

/-! ### a function of trees -/
abbrev Fn := List D → Store → Res Wv
def mkFn (n slots : Nat) (b : S → Fl) : Fn := fun ds m => if ds.length = n then (match b ⟨ds.map Sl.d ++ List.replicate (slots - n) .no, m⟩ with
  | .nx s => .ok (.d .non) ⟨[], s.st⟩
  | .rt w s => .ok w ⟨[], s.st⟩
  | .err x s => .err x ⟨[], s.st⟩
  | _ => .stuck) else .stuck
def spOf (K : PySem.W.Frag) (n : Nat) (f : Fn) : Sp := fun vs H Q E => vs.length = n ∧ ∃ (ds : List D) (m : Store) (ι : List Addr) (P Z : Hp),
  SRel K Z ι P H ⟨[], m⟩ [] ∧ Reps K ι P ds vs ∧ Out K (RW K) (fun c d _ H => E c d H) Z ι P [] Q (f ds m)
/-- the caller's own state behind a call -/
def callR (f : Fn) (ds : List D) (s : S) : Res Wv := match f ds s.st with
  | .ok w t => .ok w ⟨s.env, t.st⟩
  | .err x t => .err x ⟨s.env, t.st⟩
  | .stuck => .stuck
section
variable {K : PySem.W.Frag} {W : WX} {Z : Hp} {ι : List Addr} {P H : Hp} {s : S} {σ : L2.St} {n : Nat} {f : Fn}
theorem SRel.noenv (h : SRel K Z ι P H s σ) : SRel K Z ι P H ⟨[], s.st⟩ [] where
  p := h.p
  z := h.z
  nd := h.nd
  ιz := h.ιz
  ιp := h.ιp
  len := h.len
  cells := h.cells
  elen := rfl
  env := fun i sl e => by simp at e
  sep := fun i j a ci cj e => by simp at e
theorem notMine0 {a : Addr} {m : Store} : ¬ Mine ⟨[], m⟩ [] a := by
  rintro ⟨i, c, e, _⟩
  simp at e
theorem WRep.noenv {w : Wv} {v : V} (r : WRep K Z ι P H s σ w v) : WRep K Z ι P H ⟨[], s.st⟩ [] w v := by
  cases w with
  | d d => exact r
  | nw c =>
    obtain ⟨a, e, e1, e2, e3, _, hc⟩ := r
    exact ⟨a, e, e1, e2, e3, notMine0, hc⟩
/-- what the callee may not touch: all but what is shared -/
def guard (ι : List Addr) (H : Hp) : Hp := fun a => if a ∈ ι then none else H a
theorem guard_some {a : Addr} {o : HO} (hn : a ∉ ι) (h : H a = some o) : guard ι H a = some o := by unfold guard; rw [if_neg hn]; exact h
theorem guard_none {a : Addr} (h : guard ι H a = none) : a ∈ ι ∨ H a = none := by
  unfold guard at h
  by_cases q : a ∈ ι
  · exact .inl q
  · rw [if_neg q] at h; exact .inr h
theorem SRel.toCall (h : SRel K Z ι P H s σ) : SRel K (guard ι H) ι P H ⟨[], s.st⟩ [] where
  p := h.p
  z := fun a o e => by
    unfold guard at e
    by_cases q : a ∈ ι
    · rw [if_pos q] at e; cases e
    · rw [if_neg q] at e; exact e
  nd := h.nd
  ιz := fun a ha => by unfold guard; rw [if_pos ha]
  ιp := h.ιp
  len := h.len
  cells := h.cells
  elen := rfl
  env := fun i sl e => by simp at e
  sep := fun i j a ci cj e => by simp at e
theorem SRel.fromCall {ι' : List Addr} {P' H' : Hp} {t : Store} (h : SRel K Z ι P H s σ) (x : XZ (guard ι H) ι P ι' P') (h' : SRel K (guard ι H) ι' P' H' ⟨[], t⟩ []) :
    XZ Z ι P ι' P' ∧ SRel K Z ι' P' H' ⟨s.env, t⟩ σ ∧ ∀ a o, a ∉ ι → H a = some o → a ∉ ι' ∧ P' a = P a ∧ H' a = some o := by
  have zc : ∀ a o, Z a = some o → guard ι H a = some o := fun a o e => guard_some (fun ha => by rw [h.ιz a ha] at e; cases e) (h.z a o e)
  have own : ∀ a o, a ∉ ι → H a = some o → a ∉ ι' ∧ P' a = P a ∧ H' a = some o := fun a o hn e => by
    have g := guard_some hn e
    exact ⟨fun hm => (by rw [h'.ιz a hm] at g; cases g), x.z a o g, h'.z a o g⟩
  refine ⟨⟨x.x, fun a o e => x.z a o (zc a o e)⟩, ⟨h'.p, fun a o e => h'.z a o (zc a o e), h'.nd, fun a ha => ?_, h'.ιp, h'.len, h'.cells, h.elen, fun i sl e => ?_, h.sep⟩, own⟩
  · cases q : Z a with
    | none => rfl
    | some o => have z := h'.ιz a ha; rw [zc a o q] at z; cases z
  · have y := h.env i sl e
    cases sl with
    | no => trivial
    | d d => obtain ⟨v, e1, r⟩ := y; exact ⟨v, e1, Rep.mono x.x _ _ r⟩
    | own c =>
      obtain ⟨a, e1, e2, e3, e4, hc⟩ := y
      obtain ⟨o, ho⟩ := hc.ex
      obtain ⟨g1, g2, g3⟩ := own a o e4 ho
      exact ⟨a, e1, g2.trans e2, e3, g1, (hc.mono x.x).heap (g3.trans ho.symm)⟩
theorem call_sp {ds : List D} {vs : List V} {Q : VK} (hS : SRel K Z ι P H s σ) (hr : Reps K ι P ds vs) (hl : vs.length = n) (hO : Out K (RW K) W Z ι P σ Q (callR f ds s)) : spOf K n f vs H Q (fun c d H => W c d σ H) := by
  refine ⟨hl, ds, s.st, ι, P, guard ι H, hS.toCall, hr, ?_⟩
  unfold callR at hO
  cases q : f ds s.st with
  | ok w t =>
    rw [q] at hO
    intro v H' ι' P' x S' r
    obtain ⟨env, t⟩ := t
    have ee : env = [] := List.length_eq_zero_iff.mp S'.elen
    subst ee
    obtain ⟨x', S2, own⟩ := hS.fromCall x S'
    refine hO v H' ι' P' x' S2 ?_
    cases w with
    | d d => exact r
    | nw c =>
      obtain ⟨a, rfl, e1, e2, e3, _, hc⟩ := r
      have hn : H a = none ∨ a ∈ ι := (guard_none e2).symm
      refine ⟨a, rfl, e1, ?_, e3, ?_, hc⟩
      · cases q : Z a with
        | none => rfl
        | some o =>
          rcases hn with hn | hn
          · rw [hS.z a o q] at hn; cases hn
          · rw [hS.ιz a hn] at q; cases q
      · rintro ⟨i, c', f1, f2⟩
        obtain ⟨g1, g2, g3, o, g4⟩ := hS.mineP ⟨i, c', f1, f2⟩
        rcases hn with hn | hn
        · rw [g4] at hn; cases hn
        · exact g3 hn
  | err x t =>
    rw [q] at hO
    intro c d H' ι' P' x S' r
    obtain ⟨env, t⟩ := t
    have ee : env = [] := List.length_eq_zero_iff.mp S'.elen
    subst ee
    obtain ⟨x', S2, own⟩ := hS.fromCall x S'
    exact hO c d H' ι' P' x' S2 r
  | stuck => rw [q] at hO; exact hO
/-- the entry of a body -/
theorem SRel.start {N : List Str} {ds : List D} {vs : List V} {m : Store} (h : SRel K Z ι P H ⟨[], m⟩ []) (hr : Reps K ι P ds vs) :
    SRel K Z ι P H ⟨ds.map Sl.d ++ List.replicate (N.length - ds.length) .no, m⟩ (start N vs) where
  p := h.p
  z := h.z
  nd := h.nd
  ιz := h.ιz
  ιp := h.ιp
  len := h.len
  cells := h.cells
  elen := by simp [L2.start, hr.length]
  env := fun i sl e => by
    have e : (ds.map Sl.d ++ List.replicate (N.length - ds.length) Sl.no)[i]? = some sl := e
    by_cases q : i < ds.length
    · rw [List.getElem?_append_left (by simpa using q), List.getElem?_map, List.getElem?_eq_getElem q] at e
      cases e
      obtain ⟨v, hv, rv⟩ := hr.get (List.getElem?_eq_getElem q)
      refine ⟨v, ?_, rv⟩
      unfold L2.start
      rw [List.getElem?_append_left (by rw [List.length_map, ← hr.length]; exact q), List.getElem?_map, hv]
      rfl
    · rw [List.getElem?_append_right (by simpa using q)] at e
      have := List.mem_of_getElem? e
      rw [List.mem_replicate] at this
      rw [this.2]
      trivial
  sep := fun i j a ci cj e1 e2 => by
    have e1 : (ds.map Sl.d ++ List.replicate (N.length - ds.length) Sl.no)[i]? = some (.own ci) := e1
    by_cases q : i < ds.length
    · rw [List.getElem?_append_left (by simpa using q), List.getElem?_map, List.getElem?_eq_getElem q] at e1
      cases e1
    · rw [List.getElem?_append_right (by simpa using q)] at e1
      have := List.mem_of_getElem? e1
      rw [List.mem_replicate] at this
      cases this.2
theorem sp_start {N : List Str} {b : S → Fl} {vs : List V} {Q : VK} {E : XK} (h : spOf K n (mkFn n N.length b) vs H Q E) : tSt K (fun c d _ H => E c d H) b { nx := fun _ H' => Q .non H', rt := Q } (start N vs) H := by
  obtain ⟨hl, ds, m, ι, P, Z, hS, hr, hO⟩ := h
  have hn : ds.length = n := hr.length.trans hl
  refine ⟨_, ι, P, Z, hS.start hr, ?_⟩
  unfold mkFn at hO
  rw [if_pos hn, ← hn] at hO
  cases q : b ⟨ds.map Sl.d ++ List.replicate (N.length - ds.length) .no, m⟩ with
  | nx s => rw [q] at hO; exact fun σ' H' ι' P' x S => hO .non H' ι' P' x S.noenv (by unfold RW WRep Rep; rfl)
  | rt w s => rw [q] at hO; exact fun v σ' H' ι' P' x S r => hO v H' ι' P' x S.noenv (WRep.noenv r)
  | bk s => rw [q] at hO; exact hO.elim
  | ct s => rw [q] at hO; exact hO.elim
  | err x s => rw [q] at hO; exact fun c d σ' H' ι' P' x S r => hO c d H' ι' P' x S.noenv r
  | stuck => rw [q] at hO; exact hO.elim
end
/-- a def stands for its function -/
theorem fn_ok {P : Program} {w : World} {K : PySem.W.Frag} {mg : Str → Option Value} {base : Heap} {x qual : Str} {params : Arguments} {body : List Stmt} {scope : Scope} {dvs : List V} {kws : List (Str × V)} {f : Addr} {fd : FuncData}
    {N ps : List Str} {k n : Nat} {b : S → Fl} (F : FunD K x qual params body scope dvs kws f fd) (sc : FnScope N ps scope) (hn : ps.length = n)
    (h : ∀ (cdv : Value) (A : Around) (outer : List PySem.Env) (s : Shared) (H : Hp) (E : XK), Room k (A.deeper (envOfC qual scope s.heap.objs.size f cdv)) →
      Takes (cxOf (L2.CX P w) P w K mg base N qual scope f cdv A outer s H E) (fun c d _ H => E c d H) →
      PassesOwn (model P w) (A.deeper (envOfC qual scope s.heap.objs.size f cdv)) (envOfC qual scope s.heap.objs.size f cdv) (cxOf (L2.CX P w) P w K mg base N qual scope f cdv A outer s H E).xe →
      JSs (cxOf (L2.CX P w) P w K mg base N qual scope f cdv A outer s H E) (fun c d _ H => E c d H) body b) :
    FnOk P w K mg base (L2.CX P w) (k + 1) f fd ps (spOf K n (mkFn n N.length b)) :=
  F.ok sc (fun vs H Q E q => q.1.trans hn.symm) fun cdv A outer s H vs Q E hr hsp =>
    ⟨_, h cdv A outer s H E hr (takes_of rfl rfl rfl rfl) (passes_of rfl), sp_start hsp⟩
end PL
end

section
set_option Elab.async false
set_option linter.all false
set_option maxRecDepth 100000
set_option maxHeartbeats 2000000
namespace PL
open PySem PySem.Spec PyProof.Rows L2

/-- the places ps of xs -/
def pm {α : Type} (ps : List Nat) (xs : List α) : List α := ps.filterMap fun i => xs[i]?
def cCall (f : Fn) (args : S → Res (List D)) (dfl : List D) : S → Res Wv := fun s => (args s).bind fun ds s1 => callR f (ds ++ dfl) s1
def cCallK (f : Fn) (args kws : S → Res (List D)) (ps : List Nat) : S → Res Wv := fun s => (args s).bind fun ds s1 => (kws s1).bind fun es s2 => callR f (pm ps (ds ++ es)) s2
/-- f stands for n arguments -/
def Arity (n : Nat) (f : Fn) : Prop := ∀ ds m, f ds m ≠ .stuck → ds.length = n
theorem mkFn_arity {n slots : Nat} {b : S → Fl} : Arity n (mkFn n slots b) := fun ds m h => by
  unfold mkFn at h
  by_cases q : ds.length = n
  · exact q
  · rw [if_neg q] at h; exact absurd rfl h
theorem callR_len {n : Nat} {f : Fn} (ha : Arity n f) {K : PySem.W.Frag} {W : WX} {Z : Hp} {ι : List Addr} {P : Hp} {s : S} {σ : L2.St} {ds : List D} {Q : VK} (hO : Out K (RW K) W Z ι P σ Q (callR f ds s)) : ds.length = n :=
  ha ds s.st fun e => by unfold callR at hO; rw [e] at hO; exact hO
section
variable {K : PySem.W.Frag} {ι ι' : List Addr} {P : Hp}
mutual
def D.nr : D → Bool
  | .tup xs => nrs xs
  | .kt xs => nrs xs
  | .lst xs => nrs xs
  | .ins _ _ xs => nrs xs
  | .dK _ xs => nrs xs
  | .dT _ xs => nrs xs
  | .ref _ => false
  | .scr _ => true
  | .non => true
  | .bl _ => true
  | .int _ => true
  | .str _ => true
  | .ty _ => true
  | .cls _ => true
def nrs : List D → Bool
  | [] => true
  | x :: xs => x.nr && nrs xs
end
mutual
theorem Rep.nr : ∀ (d : D) (v : V), d.nr = true → Rep K ι P d v → Rep K ι' P d v
  | .non, v, _, h => by unfold Rep at h ⊢; exact h
  | .bl b, v, _, h => by unfold Rep at h ⊢; exact h
  | .int i, v, _, h => by unfold Rep at h ⊢; exact h
  | .str z, v, _, h => by unfold Rep at h ⊢; exact h
  | .tup xs, v, q, h => by
    unfold Rep at h ⊢
    obtain ⟨a, vs, e, ht, hr⟩ := h
    exact ⟨a, vs, e, ht, Reps.nr xs vs (by unfold D.nr at q; exact q) hr⟩
  | .kt xs, v, q, h => by
    unfold Rep at h ⊢
    obtain ⟨a, vs, e, ht, hr⟩ := h
    exact ⟨a, vs, e, ht, Reps.nr xs vs (by unfold D.nr at q; exact q) hr⟩
  | .lst xs, v, q, h => by
    unfold Rep at h ⊢
    obtain ⟨a, vs, e, ht, hr⟩ := h
    exact ⟨a, vs, e, ht, Reps.nr xs vs (by unfold D.nr at q; exact q) hr⟩
  | .scr ns, v, _, h => by unfold Rep at h ⊢; exact h
  | .ins C fs xs, v, q, h => by
    unfold Rep at h ⊢
    obtain ⟨a, dx, vs, e, ht, hl, hr⟩ := h
    exact ⟨a, dx, vs, e, ht, hl, Reps.nr xs vs (by unfold D.nr at q; exact q) hr⟩
  | .dK ks xs, v, q, h => by
    unfold Rep at h ⊢
    obtain ⟨a, vs, e, ht, hl, hr⟩ := h
    exact ⟨a, vs, e, ht, hl, Reps.nr xs vs (by unfold D.nr at q; exact q) hr⟩
  | .dT ks xs, v, q, h => by
    unfold Rep at h ⊢
    obtain ⟨a, vs, e, ht, hl, hr⟩ := h
    exact ⟨a, vs, e, ht, hl, Reps.nr xs vs (by unfold D.nr at q; exact q) hr⟩
  | .ref n, v, q, h => by unfold D.nr at q; cases q
  | .ty n, v, _, h => by unfold Rep at h ⊢; exact h
  | .cls C, v, _, h => by unfold Rep at h ⊢; exact h
theorem Reps.nr : ∀ (ds : List D) (vs : List V), nrs ds = true → Reps K ι P ds vs → Reps K ι' P ds vs
  | [], vs, _, h => by unfold Reps at h ⊢; exact h
  | d :: ds, vs, q, h => by
    unfold nrs at q
    obtain ⟨q1, q2⟩ := Bool.and_eq_true_iff.mp q
    unfold Reps at h ⊢
    obtain ⟨v, r, e, h1, h2⟩ := h
    exact ⟨v, r, e, Rep.nr d v q1 h1, Reps.nr ds r q2 h2⟩
end
def Cell.nr : Cell → Bool
  | .lst xs => nrs xs
  | .dK kvs => nrs (kvs.map (·.2))
  | .dT kvs => nrs (kvs.map (·.2))
  | .ins _ fs => nrs (fs.map (·.2))
theorem CellAt.nr {H : Hp} {a : Addr} : ∀ {c : Cell}, c.nr = true → CellAt K ι P H a c → CellAt K ι' P H a c
  | .lst xs, q, ⟨vs, e, r⟩ => ⟨vs, e, r.nr _ _ q⟩
  | .dK kvs, q, ⟨vs, e, r⟩ => ⟨vs, e, r.nr _ _ q⟩
  | .dT kvs, q, ⟨vs, e, r⟩ => ⟨vs, e, r.nr _ _ q⟩
  | .ins C fs, q, ⟨dx, vs, e, r⟩ => ⟨dx, vs, e, r.nr _ _ q⟩
theorem Reps.pm {ds : List D} {vs : List V} (h : Reps K ι P ds vs) : ∀ ps : List Nat, Reps K ι P (PL.pm ps ds) (PL.pm ps vs)
  | [] => Reps.nil
  | i :: ps => by
    have ih := Reps.pm h ps
    unfold PL.pm at ih ⊢
    rw [List.filterMap_cons, List.filterMap_cons]
    cases q : ds[i]? with
    | none =>
      have hl : vs[i]? = none := by
        rw [List.getElem?_eq_none_iff] at q ⊢
        rw [← h.length]; exact q
      rw [hl]; exact ih
    | some d =>
      obtain ⟨v, hv, r⟩ := h.get q
      rw [hv]
      exact Reps.cons r ih
end
theorem vals_get_none {vs : List V} {us : List Value} (r : Vals vs us) {i : Nat} (h : vs[i]? = none) : us[i]? = none := r.none_of h
theorem Vals.pm {vs : List V} {us : List Value} (r : Vals vs us) : ∀ ps : List Nat, Vals (PL.pm ps vs) (PL.pm ps us)
  | [] => .nil
  | i :: ps => by
    have ih := Vals.pm r ps
    unfold PL.pm at ih ⊢
    rw [List.filterMap_cons, List.filterMap_cons]
    cases q : vs[i]? with
    | none => rw [r.none_of q]; exact ih
    | some d =>
      obtain ⟨u, hu, ru⟩ := r.get q
      rw [hu]
      exact .cons ru ih

/-- the callee runs, however its arguments were written -/
theorem run_g {X : Cx} {CX : CXT} {k : Nat} {f : Addr} {fd : FuncData} {ps ks : List Str} {sp : Sp} {E : XK} {pins : List (Addr × Obj)} {σ : L2.St} {H : Hp} {s : Shared} {Q : VK} {us ws us' : List Value} {vs' : List V}
    (F : FnOk X.prog X.w X.K X.mg X.base CX k f fd ps sp) (hr : Room k X.A) (hx : PassesAt CX X σ E) (I : Inv X pins σ H s) (hb : BindsTo s fd ⟨us, ks.zip ws⟩ (ps.zip us')) (r : Vals vs' us') (h : sp vs' H Q E) :
    wpAny (model X.prog X.w) X.A (call (.ref f) us (ks.zip ws)) (EP X pins σ Q) X.xe s := by
  have run := F.run X.A X.stack s H ⟨us, ks.zip ws⟩ us' vs' Q E hr I.env0 hb r h
  refine wpAny_call (codeAny_mono run fun res s' q => ?_)
  cases res with
  | error e => exact hx pins H s e s' I q
  | ok fl => cases fl with
    | ret u => exact I.after q
    | _ => exact q.elim
abbrev JK (X : Cx) (W : WX) (kws : List Keyword) (f : S → Res (List D)) : Prop := PK X kws (tL X.K W f)
section
variable {X : Cx} {W : WX} {e : Expr} {es : List Expr} {pos p kpos : Pos} {nm : Option Str} {kws : List Keyword} {args kargs : S → Res (List D)} {fn : Fn} {dfl : List D} {dvs : List V} {dvals : List Value} {k n : Nat} {f : Addr} {fd : FuncData} {ps ks : List Str} {x : Str}
theorem pk_weak {t t' : TA} (h : PK X kws t) (q : ∀ σ H Q, t' σ H Q → t σ H Q) : PK X kws t' := ⟨fun pos pins s σ H Q I r => h.run pos pins s σ H Q I (q _ _ _ r)⟩
theorem jk_nil : JK X W [] cNil := pk_weak pk_nil fun σ H Q ⟨s, ι, P, Z, hS, hO⟩ => Out.ok hO hS (by unfold RL Reps; rfl)
theorem jk_cons {f : S → Res D} {g : S → Res (List D)} (h : JD X W e f) (h' : JK X W kws g) : JK X W (⟨nm, e, kpos⟩ :: kws) (cCons f g) :=
  pk_weak (pk_cons h h') fun σ H Q ⟨s, ι, P, Z, hS, hO⟩ => tR_bind hS hO fun d s1 v H1 ι1 P1 x1 S1 r1 o1 => tR_bind S1 o1 fun ds s2 vs H2 ι2 P2 x2 S2 r2 o2 =>
    Out.ok o2 S2 (Reps.cons (Rep.mono x2.x _ _ r1) r2)
/-- f(a, b, ..), the defaults dfl behind -/
theorem jw_call (F : FnOk X.prog X.w X.K X.mg X.base (L2.CX X.prog X.w) k f fd ps (spOf X.K n fn)) (ar : Arity n fn) (hr : Room k X.A) (tk : Takes X W) (hg : Gl X x) (hm : X.mg x = some (.ref f)) (hk : PySem.W.keepIn X.K (.ref f) = true) (hb : Binds X.K fd ps dvals) (hd : Vals dvs dvals)
    (hdr : ∀ ι P, Reps X.K ι P dfl dvs) (ha : JL X W (e :: es) args) (hdb : (x == ("__debug__" : Str)) = false := by decide) (he : starEach (e :: es) X.env = (false, eval e X.env) :: starEach es X.env := by rfl)
    (hpl : (backTo pos (starEach es X.env)).any (·.1) = false := by rfl) : JW X W (.Call (.Name x p) (e :: es) [] pos) (cCall fn args dfl) :=
  pe_weak (pe_callSD (E := fun σ => WE W σ) F hr hg hm hk hb hd (fun σ => passAt tk σ) ha hdb he hpl) fun σ H Q ⟨s, ι, P, Z, hS, hO⟩ => tR_bind hS hO fun ds s1 vs H1 ι1 P1 x1 S1 r1 o1 => by
    have r2 := Reps.app r1 (hdr ι1 P1)
    exact call_sp S1 r2 (r2.length.symm.trans (callR_len ar o1)) o1
/-- f() -/
theorem jw_call0 (F : FnOk X.prog X.w X.K X.mg X.base (L2.CX X.prog X.w) k f fd ps (spOf X.K n fn)) (ar : Arity n fn) (hr : Room k X.A) (tk : Takes X W) (hg : Gl X x) (hm : X.mg x = some (.ref f)) (hk : PySem.W.keepIn X.K (.ref f) = true) (hb : Binds X.K fd ps dvals) (hd : Vals dvs dvals)
    (hdr : ∀ ι P, Reps X.K ι P dfl dvs) (hdb : (x == ("__debug__" : Str)) = false := by decide) : JW X W (.Call (.Name x p) [] [] pos) (cCall fn cNil dfl) :=
  ⟨fun pins sh σ H Q I ⟨s, ι, P, Z, hS, hO⟩ => by
    have hO : Out X.K (RW X.K) W Z ι P σ Q (callR fn ([] ++ dfl) s) := hO
    have r2 := hdr ι P
    have q := call_sp hS r2 (r2.length.symm.trans (callR_len ar hO)) hO
    have hl := F.len _ _ _ _ q
    exact wpAny_Call_Name_kw (ld_glob I hg hm (PySem.W.callWith_K0 I.kIn hk (run_g (ks := []) (ws := []) F hr (passAt tk σ) I (hb sh [] I.kIn (by rw [List.nil_append, ← hd.length]; exact hl)) hd q)) hdb)⟩
/-- how keywords bind -/
def KwB (K : PySem.W.Frag) (fd : FuncData) (ps ks : List Str) (n1 : Nat) (pe : List Nat) : Prop :=
  ∀ (s : Shared) (us ws : List Value), K.In s.heap → us.length = n1 → ws.length = ks.length → BindsTo s fd ⟨us, ks.zip ws⟩ (ps.zip (pm pe (us ++ ws)))
theorem kwB {K : PySem.W.Frag} {y qual : Str} {params : Arguments} {body : List Stmt} {scope : Scope} {kwd : List (Str × V)} {n1 : Nat} {pe : List Nat} (F : FunD K y qual params body scope [] kwd f fd)
    (h : ∀ (kV doc pm' : Value) (an : Option Addr) (cdv ct : Value) (us ws : List Value), us.length = n1 → ws.length = ks.length →
      bindArgs (PySem.W.fnOf y qual params body scope .none kV doc pm' an cdv ct) ⟨us, ks.zip ws⟩ = pure (ps.zip (pm pe (us ++ ws)))) : KwB K fd ps ks n1 pe := fun s us ws _ l1 l2 => by
  obtain ⟨oc, od, dV, kV, doc, pm', an, cdv, ct, osl, rfl, _, _, hD, _⟩ := F.ex
  rcases hD with ⟨_, rfl⟩ | ⟨e, _⟩
  · exact .of_eq (h kV doc pm' an cdv ct us ws l1 l2)
  · exact absurd rfl e
/-- f(a, .., k = b, ..) -/
theorem jw_callK {n1 : Nat} {pe : List Nat} (F : FnOk X.prog X.w X.K X.mg X.base (L2.CX X.prog X.w) k f fd ps (spOf X.K n fn)) (ar : Arity n fn) (hr : Room k X.A) (tk : Takes X W) (hg : Gl X x) (hm : X.mg x = some (.ref f)) (hk : PySem.W.keepIn X.K (.ref f) = true)
    (hb : KwB X.K fd ps ks n1 pe) (ha : JL X W (e :: es) args) (hkw : JK X W kws kargs) (h1 : (e :: es).length = n1 := by rfl) (h2 : kws.length = ks.length := by rfl)
    (hla : ∀ s ds s', args s = .ok ds s' → ds.length = n1) (hlk : ∀ s ds s', kargs s = .ok ds s' → ds.length = ks.length)
    (hall : (backToKw pos (keywordEach kws X.env)).all (·.1.isSome) = true := by rfl) (hks : (backToKw pos (keywordEach kws X.env)).filterMap (·.1) = ks := by rfl)
    (hdb : (x == ("__debug__" : Str)) = false := by decide) (he : starEach (e :: es) X.env = (false, eval e X.env) :: starEach es X.env := by rfl)
    (hpl : ((backTo pos (starEach (e :: es) X.env)).any (·.1) || (backToKw pos (keywordEach kws X.env)).any (·.1.isNone)) = false := by rfl) :
    JW X W (.Call (.Name x p) (e :: es) kws pos) (cCallK fn args kargs pe) :=
  ⟨fun pins sh σ H Q I ⟨s, ι, P, Z, hS, hO⟩ => by
    refine wpAny_Call_Name_kw (ld_glob I hg hm ?_ hdb)
    have t1 : tL X.K W args σ H fun vs H1 => ∃ s1 ι1 P1 ds, SRel X.K Z ι1 P1 H1 s1 σ ∧ Reps X.K ι1 P1 ds vs ∧ ds.length = n1 ∧ Out X.K (RW X.K) W Z ι1 P1 σ Q ((kargs s1).bind fun es s2 => callR fn (pm pe (ds ++ es)) s2) := by
      refine ⟨s, ι, P, Z, hS, ?_⟩
      have hO : Out X.K (RW X.K) W Z ι P σ Q ((args s).bind fun ds s1 => (kargs s1).bind fun es s2 => callR fn (pm pe (ds ++ es)) s2) := hO
      cases q : args s with
      | ok ds s1 => rw [q] at hO; exact fun vs H1 ι1 P1 x1 S1 r1 => ⟨s1, ι1, P1, ds, S1, r1, hla _ _ _ q, Out.trans hO x1⟩
      | err x s1 => rw [q] at hO; exact hO
      | stuck => rw [q] at hO; exact hO
    refine PySem.W.callWith_KW (h₀ := X.base) I.ok.mod.kin hk hall (thn (ha.run pos pins sh σ H _ I t1) fun us sh1 h => ?_) hpl he
    obtain ⟨vs, H1, I1, rv, s1, ι1, P1, ds, S1, r1, l1, o1⟩ := h
    have t2 : tL X.K W kargs σ H1 fun zs H2 => ∃ s2 ι2 P2 es, SRel X.K Z ι2 P2 H2 s2 σ ∧ Reps X.K ι2 P2 (ds ++ es) (vs ++ zs) ∧ es.length = ks.length ∧ Out X.K (RW X.K) W Z ι2 P2 σ Q (callR fn (pm pe (ds ++ es)) s2) := by
      refine ⟨s1, ι1, P1, Z, S1, ?_⟩
      cases q : kargs s1 with
      | ok es s2 => rw [q] at o1; exact fun zs H2 ι2 P2 x2 S2 r2 => ⟨s2, ι2, P2, es, S2, Reps.app (r1.mono x2.x) r2, hlk _ _ _ q, Out.trans o1 x2⟩
      | err x s2 => rw [q] at o1; exact o1
      | stuck => rw [q] at o1; exact o1
    refine thn (hkw.run pos pins sh1 σ H1 _ I1 t2) fun ws sh2 h => ?_
    obtain ⟨zs, H2, I2, rz, s2, ι2, P2, es, S2, r2, l2, o2⟩ := h
    refine ⟨I2.kIn, ?_⟩
    rw [hks]
    have r3 := r2.pm pe
    have lv : us.length = n1 := rv.length.symm.trans (by
      have := r1.length
      omega)
    have lw : ws.length = ks.length := rz.length.symm.trans (by
      have h3 := r2.length
      have h4 := r1.length
      simp only [List.length_append] at h3
      omega)
    exact run_g F hr (passAt tk σ) I2 (hb sh2 us ws I2.kIn lv lw) (Vals.pm (rv.append rz) pe) (call_sp S2 r3 (r3.length.symm.trans (callR_len ar o2)) o2)⟩
/-- f(k = b, ..) -/
theorem jw_callK0 {pe : List Nat} (F : FnOk X.prog X.w X.K X.mg X.base (L2.CX X.prog X.w) k f fd ps (spOf X.K n fn)) (ar : Arity n fn) (hr : Room k X.A) (tk : Takes X W) (hg : Gl X x) (hm : X.mg x = some (.ref f)) (hk : PySem.W.keepIn X.K (.ref f) = true)
    (hb : KwB X.K fd ps ks 0 pe) (hkw : JK X W kws kargs)
    (hlk : ∀ s ds s', kargs s = .ok ds s' → ds.length = ks.length)
    (hall : (backToKw pos (keywordEach kws X.env)).all (·.1.isSome) = true := by rfl) (hks : (backToKw pos (keywordEach kws X.env)).filterMap (·.1) = ks := by rfl)
    (hdb : (x == ("__debug__" : Str)) = false := by decide)
    (hpl : ((backTo pos (starEach [] X.env)).any (·.1) || (backToKw pos (keywordEach kws X.env)).any (·.1.isNone)) = false := by rfl) :
    JW X W (.Call (.Name x p) [] kws pos) (cCallK fn cNil kargs pe) :=
  ⟨fun pins sh σ H Q I ⟨s, ι, P, Z, hS, hO⟩ => by
    refine wpAny_Call_Name_kw (ld_glob I hg hm ?_ hdb)
    have t2 : tL X.K W kargs σ H fun zs H2 => ∃ s2 ι2 P2 es, SRel X.K Z ι2 P2 H2 s2 σ ∧ Reps X.K ι2 P2 es zs ∧ es.length = ks.length ∧ Out X.K (RW X.K) W Z ι2 P2 σ Q (callR fn (pm pe es) s2) := by
      refine ⟨s, ι, P, Z, hS, ?_⟩
      have hO : Out X.K (RW X.K) W Z ι P σ Q ((kargs s).bind fun es s2 => callR fn (pm pe ([] ++ es)) s2) := hO
      cases q : kargs s with
      | ok es s2 => rw [q] at hO; exact fun zs H2 ι2 P2 x2 S2 r2 => ⟨s2, ι2, P2, es, S2, r2, hlk _ _ _ q, Out.trans hO x2⟩
      | err x s2 => rw [q] at hO; exact hO
      | stuck => rw [q] at hO; exact hO
    refine PySem.W.callWith_KW0 (h₀ := X.base) I.ok.mod.kin hk hall ?_ hpl
    refine thn (hkw.run pos pins sh σ H _ I t2) fun ws sh2 h => ?_
    obtain ⟨zs, H2, I2, rz, s2, ι2, P2, es, S2, r2, l2, o2⟩ := h
    refine ⟨I2.kIn, ?_⟩
    rw [hks]
    have r3 := r2.pm pe
    have lw : ws.length = ks.length := rz.length.symm.trans (r2.length.symm.trans l2)
    exact run_g F hr (passAt tk σ) I2 (hb sh2 [] ws I2.kIn rfl lw) (Vals.pm rz pe) (call_sp S2 r3 (r3.length.symm.trans (callR_len ar o2)) o2)⟩
/-- how many values a written row has -/
theorem len_nil {s s' : S} {ds : List D} (h : cNil s = .ok ds s') : ds.length = 0 := by cases h; rfl
theorem len_cons {f : S → Res D} {g : S → Res (List D)} {m : Nat} (hg : ∀ s ds s', g s = .ok ds s' → ds.length = m) {s s' : S} {ds : List D} (h : cCons f g s = .ok ds s') : ds.length = m + 1 := by
  unfold cCons at h
  cases q : f s with
  | ok d s1 =>
    rw [q] at h
    have h : ((g s1).bind fun ds s2 => Res.ok (d :: ds) s2) = .ok ds s' := h
    cases q2 : g s1 with
    | ok ds2 s2 => rw [q2] at h; cases h; simp [hg _ _ _ q2]
    | err x s2 => rw [q2] at h; cases h
    | stuck => rw [q2] at h; cases h
  | err x s1 => rw [q] at h; cases h
  | stuck => rw [q] at h; cases h
end
end PL
end

section
set_option Elab.async false
set_option linter.all false
set_option maxRecDepth 100000
set_option maxHeartbeats 2000000
namespace PL
open PySem PySem.Spec PyProof.Rows L2

/-! ### instances -/
/-- __init__ runs alone, over the new instance; what it makes is nobody's -/
def makeR (C : Str) (ini : Fn) (ds : List D) (s : S) : Res Wv := if nrs ds = true then (match ini (.ref 0 :: ds) [.ins C []] with
  | .ok (.d .non) ⟨_, [c]⟩ => if c.nr = true then .ok (.nw c) s else .stuck
  | .err x _ => if nrs (x.fs.map (·.2)) = true then .err x s else .stuck
  | _ => .stuck) else .stuck
def cMake (C : Str) (ini : Fn) (args : S → Res (List D)) (dfl : List D) : S → Res Wv := fun s => (args s).bind fun ds s1 => makeR C ini (ds ++ dfl) s1
def cMakeK (C : Str) (ini : Fn) (args kws : S → Res (List D)) (ps : List Nat) : S → Res Wv := fun s => (args s).bind fun ds s1 => (kws s1).bind fun es s2 => makeR C ini (pm ps (ds ++ es)) s2
section
variable {K : PySem.W.Frag} {E : XK} {Z : Hp} {ι : List Addr} {P H : Hp} {s : S} {σ : L2.St} {n : Nat} {ini : Fn} {C : Str}
theorem make_sp {ds : List D} {vs : List V} {Q : VK} (hS : SRel K Z ι P H s σ) (hr : Reps K ι P ds vs) (hl : vs.length + 1 = n) (hO : Out K (RW K) (fun c d _ H => E c d H) Z ι P σ Q (makeR C ini ds s))
    {x dx : Addr} (nx : H x = none) (ndx : H dx = none) (nex : dx ≠ x) :
    spOf K n ini (.ref x :: vs) (upd (upd H dx (.own x)) x (.ins (He.ga K C) dx [])) (fun v H2 => v = .non ∧ Q (.ref x) H2) E := by
  unfold makeR at hO
  by_cases hn : nrs ds = true
  case neg => rw [if_neg hn] at hO; exact hO.elim
  rw [if_pos hn] at hO
  have k : ∀ a o, H a = some o → upd (upd H dx (.own x)) x (.ins (He.ga K C) dx []) a = some o := fun a o e => by
    rw [upd_ne (ne_of_none e nx), upd_ne (ne_of_none e ndx)]; exact e
  have pn : ∀ {G : Hp}, (∀ a o, G a = some o → H a = some o) → G x = none := fun {G} h => by
    cases q : G x with
    | none => rfl
    | some o => rw [h x o q] at nx; cases nx
  have S0 : SRel K (guard [x] (upd (upd H dx (.own x)) x (.ins (He.ga K C) dx []))) [x] P (upd (upd H dx (.own x)) x (.ins (He.ga K C) dx [])) ⟨[], [.ins C []]⟩ [] := by
    refine ⟨fun a o e => k a o (hS.p a o e), fun a o e => ?_, by simp, fun a ha => by unfold guard; rw [if_pos ha], fun a ha => ?_, rfl, fun i c e => ?_, rfl, fun i sl e => by simp at e, fun i j a ci cj e => by simp at e⟩
    · unfold guard at e
      by_cases q : a ∈ [x]
      · rw [if_pos q] at e; cases e
      · rw [if_neg q] at e; exact e
    · simp at ha; subst ha; exact pn hS.p
    · cases i with
      | zero =>
        simp at e; subst e
        exact ⟨x, rfl, dx, [], upd_same, by simpa using Reps.nil⟩
      | succ i => simp at e
  refine ⟨hl, .ref 0 :: ds, [.ins C []], [x], P, _, S0, Reps.cons (by unfold Rep; exact ⟨x, rfl, rfl⟩) (hr.nr _ _ hn), ?_⟩
  have keep : ∀ {ι' : List Addr} {P' H' : Hp} {t : S}, XZ (guard [x] (upd (upd H dx (.own x)) x (.ins (He.ga K C) dx []))) [x] P ι' P' → SRel K (guard [x] (upd (upd H dx (.own x)) x (.ins (He.ga K C) dx []))) ι' P' H' t [] →
      XZ Z ι P ι P' ∧ SRel K Z ι P' H' s σ := fun {ι' P' H' t} x1 S1 => by
    have g : ∀ a o, H a = some o → guard [x] (upd (upd H dx (.own x)) x (.ins (He.ga K C) dx [])) a = some o := fun a o e => guard_some (by
      intro q; simp at q; subst q; rw [nx] at e; cases e) (k a o e)
    have kh : ∀ a o, H a = some o → H' a = some o := fun a o e => S1.z a o (g a o e)
    have kp : ∀ a o, H a = some o → P' a = P a := fun a o e => x1.z a o (g a o e)
    have S2 := (hS.heap kh).grow x1.x.p S1.p (fun a ha => by
      obtain ⟨o, ho⟩ := hS.ιH ha
      rw [kp a o ho]; exact hS.ιp a ha) fun a ha => by
        obtain ⟨e1, _, _, o, ho⟩ := hS.mineP ha
        rw [kp a o ho]; exact e1
    exact ⟨⟨⟨⟨[], by simp⟩, x1.x.p⟩, fun a o e => kp a o (hS.z a o e)⟩, S2⟩
  have at0 : ∀ {ι' : List Addr} {P' : Hp}, Ext [x] P ι' P' → ι'[0]? = some x := fun h => h.get rfl
  cases q : ini (.ref 0 :: ds) [.ins C []] with
  | stuck => rw [q] at hO; exact hO.elim
  | err ex t =>
    rw [q] at hO
    intro c d H' ι' P' x1 S1 r
    dsimp only at hO
    by_cases hn2 : nrs (ex.fs.map (·.2)) = true
    case neg => rw [if_neg hn2] at hO; exact hO.elim
    rw [if_pos hn2] at hO
    obtain ⟨x2, S2⟩ := keep x1 S1
    refine hO c d H' ι P' x2 S2 ⟨r.1, ?_⟩
    rcases r.2 with r | ⟨dd, vs, e1, e2, e3⟩
    · exact .inl r
    · exact .inr ⟨dd, vs, e1, e2, e3.nr _ _ hn2⟩
  | ok w t =>
    rw [q] at hO
    intro v H' ι' P' x1 S1 r
    obtain ⟨env, st⟩ := t
    cases w with
    | nw c => exact hO.elim
    | d d => cases d with
      | non => cases st with
        | nil => exact hO.elim
        | cons c st => cases st with
          | cons c2 st => exact hO.elim
          | nil =>
            dsimp only at hO
            by_cases hn2 : c.nr = true
            case neg => rw [if_neg hn2] at hO; exact hO.elim
            rw [if_pos hn2] at hO
            obtain ⟨x2, S2⟩ := keep x1 S1
            have e : v = .non := by have := r; unfold RW WRep Rep at this; exact this
            refine ⟨e, ?_⟩
            obtain ⟨a, ha, hc⟩ := S1.cells 0 c rfl
            rw [at0 x1.x] at ha
            cases ha
            refine Out.okX hO x2 S2 ⟨x, rfl, S1.ιp x (List.mem_of_getElem? (at0 x1.x)), pn hS.z, fun hm => ?_, fun hm => ?_, hc.nr hn2⟩
            · obtain ⟨o, ho⟩ := hS.ιH hm
              rw [nx] at ho; cases ho
            · obtain ⟨_, _, _, o, ho⟩ := hS.mineP hm
              rw [nx] at ho; cases ho
      | _ => exact hO.elim
theorem makeR_len {W : WX} (ar : Arity n ini) {ds : List D} {Q : VK} (hO : Out K (RW K) W Z ι P σ Q (makeR C ini ds s)) : ds.length + 1 = n := by
  have h := ar (.ref 0 :: ds) [.ins C []] fun e => by
    unfold makeR at hO
    by_cases hn : nrs ds = true
    · rw [if_pos hn, e] at hO; exact hO
    · rw [if_neg hn] at hO; exact hO
  simpa using h
end
section
variable {X : Cx} {E : XK} {e o : Expr} {es : List Expr} {pos p kpos apos : Pos} {nm : Option Str} {kws : List Keyword} {args kargs : S → Res (List D)} {fn ini : Fn} {dfl : List D} {dvs : List V} {dvals : List Value} {k n : Nat} {f : Addr} {fd : FuncData} {ps ks : List Str} {x m C : Str}
theorem passL2 (tk : Takes X (fun c d _ H => E c d H)) : Passes (L2.CX X.prog X.w) X E := passes_call tk fun _ _ _ _ h => h
/-- C(a, ..) -/
theorem jw_make (M : Mk X.K (He.ga X.K C) f) (F : FnOk X.prog X.w X.K X.mg X.base (L2.CX X.prog X.w) k f fd ps (spOf X.K n ini)) (ar : Arity n ini) (hr : Room (k + 1) X.A) (tk : Takes X (fun c d _ H => E c d H)) (hg : Gl X x) (hm : X.mg x = some (.ref (He.ga X.K C)))
    (hb : Binds X.K fd ps dvals) (hd : Vals dvs dvals) (hdr : ∀ ι P, Reps X.K ι P dfl dvs) (ha : JL X (fun c d _ H => E c d H) (e :: es) args) (hdb : (x == ("__debug__" : Str)) = false := by decide)
    (he : starEach (e :: es) X.env = (false, eval e X.env) :: starEach es X.env := by rfl) (hpl : (backTo pos (starEach es X.env)).any (·.1) = false := by rfl) : JW X (fun c d _ H => E c d H) (.Call (.Name x p) (e :: es) [] pos) (cMake C ini args dfl) :=
  pe_weak (pe_make M F hr hg hm hb hd (passL2 tk) ha hdb he hpl) fun σ H Q ⟨s, ι, P, Z, hS, hO⟩ => tR_bind hS hO fun ds s1 vs H1 ι1 P1 x1 S1 r1 o1 => fun x dx nx ndx nex => by
    have r2 := Reps.app r1 (hdr ι1 P1)
    exact make_sp S1 r2 (by rw [← r2.length]; exact makeR_len ar o1) o1 nx ndx nex
theorem jw_make0 (M : Mk X.K (He.ga X.K C) f) (F : FnOk X.prog X.w X.K X.mg X.base (L2.CX X.prog X.w) k f fd ps (spOf X.K n ini)) (ar : Arity n ini) (hr : Room (k + 1) X.A) (tk : Takes X (fun c d _ H => E c d H)) (hg : Gl X x) (hm : X.mg x = some (.ref (He.ga X.K C)))
    (hb : Binds X.K fd ps dvals) (hd : Vals dvs dvals) (hdr : ∀ ι P, Reps X.K ι P dfl dvs) (hdb : (x == ("__debug__" : Str)) = false := by decide) :
    JW X (fun c d _ H => E c d H) (.Call (.Name x p) [] [] pos) (cMake C ini cNil dfl) :=
  pe_weak (pe_make0 M F hr hg hm hb hd (passL2 tk) hdb) fun σ H Q ⟨s, ι, P, Z, hS, hO⟩ => fun x dx nx ndx nex => by
    have r2 := hdr ι P
    have hO : Out X.K (RW X.K) (fun c d _ H => E c d H) Z ι P σ Q (makeR C ini ([] ++ dfl) s) := hO
    exact make_sp hS r2 (by rw [← r2.length]; exact makeR_len ar hO) hO nx ndx nex
/-- C(k = b, ..) -/
theorem jw_makeK0 {pe : List Nat} (M : Mk X.K (He.ga X.K C) f) (F : FnOk X.prog X.w X.K X.mg X.base (L2.CX X.prog X.w) k f fd ps (spOf X.K n ini)) (ar : Arity n ini) (hr : Room (k + 1) X.A) (tk : Takes X (fun c d _ H => E c d H)) (hg : Gl X x) (hm : X.mg x = some (.ref (He.ga X.K C)))
    (hb : KwB X.K fd ps ks 1 (0 :: pe.map (· + 1))) (hkw : JK X (fun c d _ H => E c d H) kws kargs) (hlk : ∀ s ds s', kargs s = .ok ds s' → ds.length = ks.length)
    (hall : (backToKw pos (keywordEach kws X.env)).all (·.1.isSome) = true := by rfl) (hks : (backToKw pos (keywordEach kws X.env)).filterMap (·.1) = ks := by rfl) (hdb : (x == ("__debug__" : Str)) = false := by decide)
    (hpl : ((backTo pos (starEach [] X.env)).any (·.1) || (backToKw pos (keywordEach kws X.env)).any (·.1.isNone)) = false := by rfl) :
    JW X (fun c d _ H => E c d H) (.Call (.Name x p) [] kws pos) (cMakeK C ini cNil kargs pe) :=
  pe_weak (pe_makeK0 (g := fun us ws => pm (0 :: pe.map (· + 1)) (us ++ ws)) (gV := fun us ws => pm (0 :: pe.map (· + 1)) (us ++ ws)) M F hr hg hm
      ⟨fun s us ws X l1 l2 => hb s us ws X l1 l2, fun r1 r2 => Vals.pm (r1.append r2) _⟩ (passL2 tk) hkw hall hks hdb hpl) fun σ H Q ⟨s, ι, P, Z, hS, hO⟩ => by
    have hO : Out X.K (RW X.K) (fun c d _ H => E c d H) Z ι P σ Q ((kargs s).bind fun es s2 => makeR C ini (pm pe es) s2) := hO
    exact tR_bindE hS hO fun es s1 zs H1 ι1 P1 e1 x1 S1 r1 o1 => ⟨rfl, r1.length.symm.trans (hlk _ _ _ e1), fun x dx nx ndx nex => by
      have r2 := r1.pm pe
      have e2 : pm (0 :: pe.map (· + 1)) ([V.ref x] ++ zs) = .ref x :: pm pe zs := by
        unfold pm
        rw [List.filterMap_cons, List.filterMap_map]
        rfl
      show spOf X.K n ini (pm (0 :: pe.map (· + 1)) ([V.ref x] ++ zs)) _ _ _
      rw [e2]
      exact make_sp S1 r2 (by rw [← r2.length]; exact makeR_len ar o1) o1 nx ndx nex⟩
end
end PL
end

section
set_option Elab.async false
set_option linter.all false
set_option maxRecDepth 100000
set_option maxHeartbeats 2000000
namespace PL
open PySem PySem.Spec PyProof.Rows L2

/-! ### attributes -/
def insOf : D → Option (Str × List Str × List D)
  | .ins C fs xs => some (C, fs, xs)
  | _ => none
def gFld (Cs : List Str) (f : Str) : D → Option Wv := fun d => match insOf d with
  | some (C, fs, xs) => if C ∈ Cs then ((fs.zip xs).lookup f).map Wv.d else none
  | none => none
/-- the classes Cs have plain instances with an attribute f -/
def FldOk (K : PySem.W.Frag) (Cs : List Str) (f : Str) : Prop := ∀ C ∈ Cs, Cls K (He.ga K C) ∧ NoAttr K (He.ga K C) f
theorem insOf_view {K : PySem.W.Frag} {ι : List Addr} {P H : Hp} {d : D} {v : V} {C : Str} {fs : List Str} {xs : List D} (e : insOf d = some (C, fs, xs)) (r : View K ι P H d v) :
    ∃ a dx vs, v = .ref a ∧ H a = some (.ins (He.ga K C) dx (fs.zip vs)) ∧ fs.length = vs.length ∧ Reps K ι P xs vs := by
  cases d with
  | ins C' fs' xs' => cases e; exact r
  | _ => cases e
theorem lookup_zip {K : PySem.W.Frag} {ι : List Addr} {P : Hp} {f : Str} {d : D} : ∀ {fs : List Str} {xs : List D} {vs : List V}, Reps K ι P xs vs → (fs.zip xs).lookup f = some d → ∃ v, (fs.zip vs).lookup f = some v ∧ Rep K ι P d v
  | [], xs, vs, h, e => by simp at e
  | g :: fs, [], vs, h, e => by simp at e
  | g :: fs, x :: xs, vs, h, e => by
    obtain ⟨v, r, rfl, h1, h2⟩ := h.uncons
    rw [List.zip_cons_cons, List.lookup_cons] at e
    rw [List.zip_cons_cons, List.lookup_cons]
    cases q : f == g with
    | true => rw [q] at e; cases e; exact ⟨v, rfl, h1⟩
    | false => rw [q] at e; exact lookup_zip h2 e
theorem lookup_none {f : Str} : ∀ {fs : List Str} {vs : List V}, f ∉ fs → (fs.zip vs).lookup f = none
  | [], vs, h => by simp
  | g :: fs, [], h => by simp
  | g :: fs, v :: vs, h => by
    rw [List.zip_cons_cons, List.lookup_cons]
    have : (f == g) = false := by
      cases q : f == g with
      | false => rfl
      | true => exact absurd (by rw [eq_of_beq q]; simp) h
    rw [this]
    exact lookup_none fun hm => h (List.mem_cons_of_mem _ hm)
def rFld (K : PySem.W.Frag) (f : Str) : V → Hp → VK → Prop := fun x H1 Q => ∃ a C dx fs v, x = .ref a ∧ H1 a = some (.ins C dx fs) ∧ Cls K C ∧ NoAttr K C f ∧ fs.lookup f = some v ∧ Q v H1
theorem good_fld {K : PySem.W.Frag} {Cs : List Str} {f : Str} (ok : FldOk K Cs f) : Good1 K (rFld K f) (gFld Cs f) := fun {ι P H d w v Q} hp e r k => by
  unfold gFld at e
  cases q : insOf d with
  | none => rw [q] at e; cases e
  | some t =>
    obtain ⟨C, fs, xs⟩ := t
    rw [q] at e
    dsimp only at e
    by_cases hC : C ∈ Cs
    case neg => rw [if_neg hC] at e; cases e
    rw [if_pos hC] at e
    obtain ⟨d', e1, e2⟩ := Option.map_eq_some_iff.mp e
    subst e2
    obtain ⟨a, dx, vs, rfl, h1, h2, h3⟩ := insOf_view q r
    obtain ⟨v', l1, l2⟩ := lookup_zip h3 e1
    exact ⟨a, _, dx, _, v', rfl, h1, (ok C hC).1, (ok C hC).2, l1, k _ _ _ (Done.same hp l2)⟩
section
variable {X : Cx} {W : WX} {e : Expr} {pos : Pos} {f : Str} {o : Opd} {Cs : List Str}
theorem jw_fld (ok : FldOk X.K Cs f) (he : JO X W e o) (hb : attributeBase e f X.env (eval e X.env) = eval e X.env := by rfl) : JW X W (.Attribute e f pos) (cOp1 (gFld Cs f) o) :=
  pe_weak (pe_fld he hb) fun σ H Q h => op1_t (good_fld ok) h
end

/-! ### what is changed -/
def rcell (o : Opd) (x : Option D) (s : S) : Option Cell := match o, x with
  | .v i, _ => (match s.env[i]? with
    | some (.own c) => some c
    | some (.d (.ref n)) => s.st[n]?
    | _ => none)
  | .e _, some (.ref n) => s.st[n]?
  | .e _, _ => none
def rput (o : Opd) (x : Option D) (s : S) (c : Cell) : S := match o, x with
  | .v i, _ => (match s.env[i]? with
    | some (.d (.ref n)) => ⟨s.env, s.st.set n c⟩
    | _ => ⟨s.env.set i (.own c), s.st⟩)
  | .e _, some (.ref n) => ⟨s.env, s.st.set n c⟩
  | .e _, _ => s
theorem mut_ok {K : PySem.W.Frag} {Z : Hp} {ι : List Addr} {P H H0 : Hp} {s s0 : S} {σ : L2.St} {o : Opd} {x : Option D} {v : V} {c : Cell} (hS : SRel K Z ι P H s σ) (r : RO K o Z σ ι P H0 s0 x v) (e : rcell o x s = some c) :
    ∃ a, v = .ref a ∧ CellAt K ι P H a c ∧ ∀ ob c', CellAt K ι P (upd H a ob) a c' → SRel K Z ι P (upd H a ob) (rput o x s c') σ := by
  have viaRef : ∀ {n : Nat}, Rep K ι P (.ref n) v → s.st[n]? = some c → ∃ a, v = .ref a ∧ CellAt K ι P H a c ∧ ∀ ob c', CellAt K ι P (upd H a ob) a c' → SRel K Z ι P (upd H a ob) ⟨s.env, s.st.set n c'⟩ σ := fun {n} r e => by
    unfold Rep at r
    obtain ⟨a, rfl, ha⟩ := r
    obtain ⟨b, hb, hc⟩ := hS.cells n c e
    rw [ha] at hb; cases hb
    exact ⟨a, rfl, hc, fun ob c' h => hS.writeCell e ha h⟩
  cases o with
  | v i =>
    have r : σ[i]? = some (some v) := r
    unfold rcell at e
    unfold rput
    dsimp only at e ⊢
    cases q : s.env[i]? with
    | none => rw [q] at e; cases e
    | some sl =>
      rw [q] at e
      cases sl with
      | no => cases e
      | own c0 =>
        cases e
        obtain ⟨a, e1, _, _, _, hc⟩ := (hS.env i _ q).ex
        rw [r] at e1; cases e1
        exact ⟨a, rfl, hc, fun ob c' h => hS.writeOwn q r h⟩
      | d d => cases d with
        | ref n =>
          obtain ⟨u, e1, ru⟩ := hS.env i _ q
          rw [r] at e1; cases e1
          exact viaRef ru e
        | _ => cases e
  | e f => cases x with
    | none => exact r.elim
    | some d => cases d with
      | ref n => exact viaRef r e
      | _ => cases e
/-- a method that changes its object -/
def GoodMut (K : PySem.W.Frag) (r : V → List V → Hp → VK → Prop) (g : Cell → List D → Option (Cell × D)) : Prop :=
  ∀ {ι : List Addr} {P H : Hp} {c c' : Cell} {ds : List D} {vs : List V} {a : Addr} {d : D} {Q : VK}, (∀ a o, P a = some o → H a = some o) → g c ds = some (c', d) → CellAt K ι P H a c → Reps K ι P ds vs →
    (∀ ob v', CellAt K ι P (upd H a ob) a c' → Rep K ι P d v' → Q v' (upd H a ob)) → r (.ref a) vs H Q
def Cell.isT (T : String) : Cell → Bool
  | .lst _ => T == "list"
  | .dK _ => T == "dict"
  | .dT _ => T == "dict"
  | .ins _ _ => false
theorem Cell.ty {K : PySem.W.Frag} {ι : List Addr} {P H : Hp} {c : Cell} {T : String} {a : Addr} (e : c.isT T = true) (h : CellAt K ι P H a c) : tyV K T (.ref a) H := by
  cases c with
  | lst xs =>
    obtain ⟨vs, hv, _⟩ := h
    exact .inl ⟨eq_of_beq e, vs, SqL.of hv⟩
  | dK kvs =>
    obtain ⟨vs, hv, _⟩ := h
    exact .inr (.inr (.inl ⟨eq_of_beq e, .inl ⟨_, hv⟩⟩))
  | dT kvs =>
    obtain ⟨vs, hv, _⟩ := h
    exact .inr (.inr (.inl ⟨eq_of_beq e, .inr ⟨_, hv⟩⟩))
  | ins C fs => cases e
theorem any_some {α : Type} {x : Option α} {p : α → Bool} (h : x.any p = true) : ∃ c, x = some c ∧ p c = true := by
  cases x with
  | none => cases h
  | some c => exact ⟨c, rfl, h⟩
def cMut (T : String) (o : Opd) (args : S → Res (List D)) (g : Cell → List D → Option (Cell × D)) : S → Res Wv := fun s => (o.run s).bind fun x s1 => if (rcell o x s1).any (Cell.isT T) = true then (args s1).bind fun ds s2 => (match rcell o x s2 with
  | some c => (match g c ds with
    | some (c', d) => .ok (.d d) (rput o x s2 c')
    | none => .stuck)
  | none => .stuck) else .stuck
section
variable {X : Cx} {W : WX} {e ob : Expr} {es : List Expr} {pos apos : Pos} {o : Opd} {T id : String} {name : Str} {r : V → List V → Hp → VK → Prop} {g : Cell → List D → Option (Cell × D)} {args : S → Res (List D)}
theorem mut_t {K : PySem.W.Frag} (G : GoodMut K r g) {σ : L2.St} {H : Hp} {Q : VK} (h : tW K W (cMut T o args g) σ H Q) : tBM K T r (tR K (RO K o) W o.run) (tL K W args) σ H Q := by
  obtain ⟨s, ι, P, Z, hS, hO⟩ := h
  refine tR_bind hS hO fun x s1 v H1 ι1 P1 x1 S1 r1 o1 => ?_
  by_cases q : (rcell o x s1).any (Cell.isT T) = true
  case neg => rw [if_neg q] at o1; exact o1.elim
  rw [if_pos q] at o1
  obtain ⟨c0, e0, t0⟩ := any_some q
  obtain ⟨a, rfl, hc0, _⟩ := mut_ok S1 r1 e0
  refine ⟨Cell.ty t0 hc0, tR_bind S1 o1 fun ds s2 vs H2 ι2 P2 x2 S2 r2 o2 => ?_⟩
  cases q2 : rcell o x s2 with
  | none => simp only [q2] at o2; exact o2.elim
  | some c =>
    simp only [q2] at o2
    obtain ⟨b, eb, hc, wr⟩ := mut_ok (H0 := H1) (s0 := s1) S2 (r1.mono x2) q2
    cases eb
    cases q3 : g c ds with
    | none => simp only [q3] at o2; exact o2.elim
    | some p =>
      obtain ⟨c', d⟩ := p
      simp only [q3] at o2
      exact G S2.p q3 hc r2 fun ob v' h1 h2 => Out.ok o2 (wr ob c' h1) h2
theorem jw_mut (pa : PlainAttrs T) (slot : Slot T name id) (hty : typeOf (.builtin id) = pure (.type "method_descriptor")) (hm : MtR X id r) (G : GoodMut X.K r g) (ho : JO X W ob o) (ha : JL X W (e :: es) args)
    (q : ∀ t t', PE X ob t → PA X (e :: es) t' → PE X (.Call (.Attribute ob name apos) (e :: es) [] pos) (tBM X.K T r t t')) : JW X W (.Call (.Attribute ob name apos) (e :: es) [] pos) (cMut T o args g) :=
  pe_weak (q _ _ ho ha) fun σ H Q h => mut_t G h
theorem jw_mut0 (G : GoodMut X.K r g) (ho : JO X W ob o)
    (q : ∀ t, PE X ob t → PE X (.Call (.Attribute ob name apos) [] [] pos) (tBM0 X.K T r t)) : JW X W (.Call (.Attribute ob name apos) [] [] pos) (cMut T o cNil g) :=
  pe_weak (q _ ho) fun σ H Q h => by
    have z := mut_t G h
    obtain ⟨s, ι, P, Z, hS, k⟩ := z
    refine ⟨s, ι, P, Z, hS, ?_⟩
    cases q : o.run s with
    | ok x s1 =>
      rw [q] at k
      intro v H1 ι1 P1 x1 S1 r1
      obtain ⟨t1, s2, ι2, P2, Z2, S2, k2⟩ := k v H1 ι1 P1 x1 S1 r1
      exact ⟨t1, k2 [] H1 ι2 P2 .refl S2 (by unfold RL Reps; rfl)⟩
    | err y s1 => rw [q] at k; exact k
    | stuck => rw [q] at k; exact k
end
end PL
end

section
set_option Elab.async false
set_option linter.all false
set_option maxRecDepth 100000
set_option maxHeartbeats 2000000
namespace PL
open PySem PySem.Spec PyProof.Rows L2

/-! ### own methods -/
def cMeth (C m : Str) (f : Fn) (fo : S → Res D) (args : S → Res (List D)) (dfl : List D) : S → Res Wv := fun s => (fo s).bind fun d s1 => match (derf s1 d).bind insOf with
  | some (C', fs, _) => if C' = C ∧ m ∉ fs then (args s1).bind fun ds s2 => callR f (d :: (ds ++ dfl)) s2 else .stuck
  | none => .stuck
section
variable {X : Cx} {E : XK} {e o : Expr} {es : List Expr} {pos apos : Pos} {args : S → Res (List D)} {fo : S → Res D} {fn : Fn} {dfl : List D} {dvs : List V} {dvals : List Value} {k n : Nat} {f : Addr} {fd : FuncData} {ps : List Str} {m C : Str}
theorem meth_t {K : PySem.W.Frag} (ar : Arity n fn) (hdr : ∀ ι P, Reps K ι P dfl dvs) {σ : L2.St} {H : Hp} {Q : VK} (h : tW K (fun c d _ H => E c d H) (cMeth C m fn fo args dfl) σ H Q) :
    tMeth (He.ga K C) m (spOf K n fn) dvs E (tD K (fun c d _ H => E c d H) fo) (tL K (fun c d _ H => E c d H) args) σ H Q := by
  obtain ⟨s, ι, P, Z, hS, hO⟩ := h
  refine tR_bind hS hO fun d s1 v H1 ι1 P1 x1 S1 r1 o1 => ?_
  cases q : (derf s1 d).bind insOf with
  | none => simp only [q] at o1; exact o1.elim
  | some t =>
    obtain ⟨C', fs, xs⟩ := t
    simp only [q] at o1
    by_cases hc : C' = C ∧ m ∉ fs
    case neg => rw [if_neg hc] at o1; exact o1.elim
    rw [if_pos hc] at o1
    obtain ⟨rfl, hm⟩ := hc
    obtain ⟨d', e1, e2⟩ := Option.bind_eq_some_iff.mp q
    have vw := S1.derf e1 r1
    obtain ⟨a, dx, vs, rfl, h1, h2, h3⟩ := insOf_view e2 vw
    refine ⟨a, dx, _, rfl, h1, lookup_none hm, tR_bind S1 o1 fun ds s2 vs H2 ι2 P2 x2 S2 r2 o2 => ?_⟩
    have r3 := Reps.cons (Rep.mono x2.x _ _ r1) (Reps.app r2 (hdr ι2 P2))
    exact call_sp S2 r3 (r3.length.symm.trans (callR_len ar o2)) o2
theorem jw_meth {pl : Sem Bool} (ho : JD X (fun c d _ H => E c d H) o fo) (c : Cls X.K (He.ga X.K C)) (hm : Meth X.K (He.ga X.K C) m f) (F : FnOk X.prog X.w X.K X.mg X.base (L2.CX X.prog X.w) k f fd ps (spOf X.K n fn)) (ar : Arity n fn) (hr : Room k X.A)
    (tk : Takes X (fun c d _ H => E c d H)) (hb : Binds X.K fd ps dvals) (hd : Vals dvs dvals) (hdr : ∀ ι P, Reps X.K ι P dfl dvs) (ha : JL X (fun c d _ H => E c d H) (e :: es) args)
    (hst : starEach (e :: es) X.env = (false, eval e X.env) :: starEach es X.env := by rfl) (hpl : (backTo pos (starEach es X.env)).any (·.1) = false := by rfl)
    (ht : eval (.Call (.Attribute o m apos) (e :: es) [] pos) X.env = (do
      let ov ← eval o X.env
      standAt apos.atName
      let (f, first) ← holding [ov] (getMethod ov m pl)
      callWith pos f first (backTo pos (starEach (e :: es) X.env)) (backToKw pos (keywordEach [] X.env))) := by rfl) : JW X (fun c d _ H => E c d H) (.Call (.Attribute o m apos) (e :: es) [] pos) (cMeth C m fn fo args dfl) :=
  pe_weak (pe_meth ho c hm F hr hb hd (passL2 tk) ha hst hpl ht) fun σ H Q h => meth_t ar hdr h
theorem jw_meth0 {pl : Sem Bool} (ho : JD X (fun c d _ H => E c d H) o fo) (c : Cls X.K (He.ga X.K C)) (hm : Meth X.K (He.ga X.K C) m f) (F : FnOk X.prog X.w X.K X.mg X.base (L2.CX X.prog X.w) k f fd ps (spOf X.K n fn)) (ar : Arity n fn) (hr : Room k X.A)
    (tk : Takes X (fun c d _ H => E c d H)) (hb : Binds X.K fd ps dvals) (hd : Vals dvs dvals) (hdr : ∀ ι P, Reps X.K ι P dfl dvs)
    (ht : eval (.Call (.Attribute o m apos) [] [] pos) X.env = (do
      let ov ← eval o X.env
      standAt apos.atName
      let (f, first) ← holding [ov] (getMethod ov m pl)
      callWith pos f first (backTo pos (starEach [] X.env)) (backToKw pos (keywordEach [] X.env))) := by rfl) : JW X (fun c d _ H => E c d H) (.Call (.Attribute o m apos) [] [] pos) (cMeth C m fn fo cNil dfl) :=
  pe_weak (pe_meth0 ho c hm F hr hb hd (passL2 tk) ht) fun σ H Q h => by
    obtain ⟨s, ι, P, Z, hS, k⟩ := meth_t (E := E) ar hdr h
    refine ⟨s, ι, P, Z, hS, ?_⟩
    cases q : fo s with
    | ok d s1 =>
      rw [q] at k
      intro v H1 ι1 P1 x1 S1 r1
      obtain ⟨a, dx, fs, e1, e2, e3, s2, ι2, P2, Z2, S2, k2⟩ := k v H1 ι1 P1 x1 S1 r1
      exact ⟨a, dx, fs, e1, e2, e3, k2 [] H1 ι2 P2 .refl S2 (by unfold RL Reps; rfl)⟩
    | err y s1 => rw [q] at k; exact k
    | stuck => rw [q] at k; exact k
end

/-! ### o.f = e -/
def putA (f : Str) (d : D) : List (Str × D) → List (Str × D)
  | [] => [(f, d)]
  | (g, x) :: r => if g = f then (g, d) :: r else (g, x) :: putA f d r
def sFldS (Cs : List Str) (f : Str) (fv : S → Res D) (o : Opd) : S → Fl := fun s => (fv s).fl fun d s1 => (o.run s1).fl fun x s2 => match rcell o x s2 with
  | some (.ins C fs) => if C ∈ Cs ∧ fs.length < 1000 then .nx (rput o x s2 (.ins C (putA f d fs))) else .stuck
  | _ => .stuck
theorem putF_zip {K : PySem.W.Frag} {ι : List Addr} {P : Hp} {f : Str} {d : D} {v : V} (r : Rep K ι P d v) : ∀ {fs : List (Str × D)} {vs : List V}, Reps K ι P (fs.map (·.2)) vs →
    ∃ us, putF f v ((fs.map (·.1)).zip vs) = ((putA f d fs).map (·.1)).zip us ∧ Reps K ι P ((putA f d fs).map (·.2)) us
  | [], vs, h => by
    unfold Reps at h
    have h : vs = [] := h
    subst h
    exact ⟨[v], rfl, Reps.one r⟩
  | (g, x) :: fs, vs, h => by
    obtain ⟨u, us, rfl, h1, h2⟩ := Reps.uncons h
    rw [List.map_cons, List.zip_cons_cons]
    unfold putA L2.putF
    by_cases q : g = f
    · rw [if_pos q, if_pos q]
      exact ⟨v :: us, rfl, Reps.cons r h2⟩
    · rw [if_neg q, if_neg q]
      obtain ⟨us', e1, e2⟩ := putF_zip r h2
      exact ⟨u :: us', by rw [e1]; rfl, Reps.cons h1 e2⟩
section
variable {X : Cx} {W : WX} {value ob : Expr} {pos pos' : Pos} {f : Str} {o : Opd} {Cs : List Str} {fv : S → Res D}
theorem js_fld (ok : FldOk X.K Cs f) (ho : JO X W ob o) (hv : JD X W value fv) (hs : swapsWith value (some (.Attribute ob f pos')) pos.line X.env = pure false := by rfl) : JS X W (.Assign [.Attribute ob f pos'] value pos) (sFldS Cs f fv o) :=
  ps_weak (ps_fld ho hv hs) fun A σ H ⟨s, ι, P, Z, hS, hO⟩ => tR_fl hS hO fun d s1 v H1 ι1 P1 x1 S1 r1 o1 => tR_fl S1 o1 fun x s2 u H2 ι2 P2 x2 S2 r2 o2 => by
    cases q : rcell o x s2 with
    | none => simp only [q] at o2; exact o2.elim
    | some c =>
      obtain ⟨a, rfl, hc, wr⟩ := mut_ok S2 r2 q
      cases c with
      | ins C fs =>
        simp only [q] at o2
        by_cases hC : C ∈ Cs ∧ fs.length < 1000
        case neg => rw [if_neg hC] at o2; exact o2.elim
        rw [if_pos hC] at o2
        obtain ⟨dx, vs, h1, h2⟩ := hc
        obtain ⟨us, e1, e2⟩ := putF_zip (f := f) (Rep.mono x2.x _ _ r1) h2
        have hl : fs.length = vs.length := by simpa using h2.length
        refine ⟨a, _, dx, _, rfl, h1, (ok C hC.1).1, (ok C hC.1).2, by simp [List.length_zip, hl]; omega, OutS.nx o2 (wr _ _ ?_)⟩
        exact ⟨dx, us, by rw [upd_same, e1], e2⟩
      | _ => simp only [q] at o2; exact o2.elim
end

/-! ### o[i] = e -/
/-- what a store at an index does to a cell -/
def putKV {κ : Type} [DecidableEq κ] (kvs : List (κ × D)) (k : κ) (v : D) : List (κ × D) :=
  if (kvs.any fun kv => decide (kv.1 = k)) = true then kvs.map fun kv => if kv.1 = k then (kv.1, v) else kv else kvs ++ [(k, v)]
def keyOf : D → Option Key
  | .int i => some (.inl i)
  | .str x => some (.inr x)
  | _ => none
def keysOf : List D → Option (List Key)
  | [] => some []
  | d :: ds => (keyOf d).bind fun k => (keysOf ds).map (k :: ·)
def tkeyOf : D → Option (List Key)
  | .tup ds => keysOf ds
  | _ => none
def gPut : Cell → D → D → Option Cell
  | .lst xs, .int i, v => (ixN xs.length i).map fun j => .lst (xs.set j v)
  | .dK kvs, i, v => (keyOf i).bind fun k => if kvs.length < sizeLine then some (.dK (putKV kvs k v)) else none
  | .dT kvs, i, v => (tkeyOf i).bind fun k => if kvs.length < sizeLine then some (.dT (putKV kvs k v)) else none
  | _, _, _ => none
theorem keyOf_v {K : PySem.W.Frag} {ι : List Addr} {P : Hp} {d : D} {k : Key} {v : V} (e : keyOf d = some k) (r : Rep K ι P d v) : v = kV k := by
  cases d with
  | int i => cases e; unfold Rep at r; exact r
  | str x => cases e; unfold Rep at r; exact r
  | _ => cases e
theorem keysOf_v {K : PySem.W.Frag} {ι : List Addr} {P : Hp} : ∀ {ds : List D} {ks : List Key} {vs : List V}, keysOf ds = some ks → Reps K ι P ds vs → vs = ks.map kV
  | [], ks, vs, e, r => by cases e; unfold Reps at r; exact r
  | d :: ds, ks, vs, e, r => by
    unfold keysOf at e
    obtain ⟨k, e1, e2⟩ := Option.bind_eq_some_iff.mp e
    obtain ⟨ks', e3, rfl⟩ := Option.map_eq_some_iff.mp e2
    obtain ⟨v, r', rfl, h1, h2⟩ := r.uncons
    rw [keyOf_v e1 h1, keysOf_v e3 h2]
    rfl
theorem putK_zip {κ : Type} [DecidableEq κ] {K : PySem.W.Frag} {ι : List Addr} {P : Hp} {k : κ} {d : D} {v : V} (r : Rep K ι P d v) {kvs : List (κ × D)} {vs : List V} (h : Reps K ι P (kvs.map (·.2)) vs) :
    ∃ us, L2.putK ((kvs.map (·.1)).zip vs) k v = ((putKV kvs k d).map (·.1)).zip us ∧ Reps K ι P ((putKV kvs k d).map (·.2)) us := by
  have hany : ∀ {kvs : List (κ × D)} {vs : List V}, Reps K ι P (kvs.map (·.2)) vs → (((kvs.map (·.1)).zip vs).any fun kv => decide (kv.1 = k)) = kvs.any fun kv => decide (kv.1 = k) := by
    intro kvs
    induction kvs with
    | nil => intro vs h; rfl
    | cons p kvs ih =>
      intro vs h
      obtain ⟨u, us, rfl, h1, h2⟩ := Reps.uncons h
      rw [List.map_cons, List.zip_cons_cons, List.any_cons, List.any_cons, ih h2]
  have hmap : ∀ {kvs : List (κ × D)} {vs : List V}, Reps K ι P (kvs.map (·.2)) vs → ∃ us, (((kvs.map (·.1)).zip vs).map fun kv => if kv.1 = k then (kv.1, v) else kv) = ((kvs.map fun kv => if kv.1 = k then (kv.1, d) else kv).map (·.1)).zip us ∧ Reps K ι P ((kvs.map fun kv => if kv.1 = k then (kv.1, d) else kv).map (·.2)) us := by
    intro kvs
    induction kvs with
    | nil => intro vs h; unfold Reps at h; have h : vs = [] := h; subst h; exact ⟨[], rfl, Reps.nil⟩
    | cons p kvs ih =>
      intro vs h
      obtain ⟨u, us, rfl, h1, h2⟩ := Reps.uncons h
      obtain ⟨us', e1, e2⟩ := ih h2
      by_cases q : p.1 = k
      · refine ⟨v :: us', ?_, ?_⟩
        · rw [List.map_cons, List.zip_cons_cons, List.map_cons, List.map_cons, List.map_cons, List.zip_cons_cons, e1, if_pos q, if_pos q]
        · rw [List.map_cons, List.map_cons, if_pos q]
          exact Reps.cons r e2
      · refine ⟨u :: us', ?_, ?_⟩
        · rw [List.map_cons, List.zip_cons_cons, List.map_cons, List.map_cons, List.map_cons, List.zip_cons_cons, e1, if_neg q, if_neg q]
        · rw [List.map_cons, List.map_cons, if_neg q]
          exact Reps.cons h1 e2
  unfold L2.putK putKV
  rw [hany h]
  by_cases q : (kvs.any fun kv => decide (kv.1 = k)) = true
  · rw [if_pos q, if_pos q]
    exact hmap h
  · rw [if_neg q, if_neg q]
    refine ⟨vs ++ [v], ?_, ?_⟩
    · rw [List.map_append, List.zip_append (by simpa using h.length)]
      rfl
    · rw [List.map_append]
      exact Reps.app h (Reps.one r)
/-- a store by values: a list's place, a dict's key -/
def rPut (H : Hp) (o i v : V) (Q : Hp → Prop) : Prop := rSetL o i v H Q ∨ ∃ a H', o = .ref a ∧ DPut H a i v H' ∧ Q H'
theorem set_any {X : Cx} (hu : X.A.units + 1 < cLine) : PSet X (fun o i v H Q => rPut H o i v Q) := fun pins s σ H o i v ov iv u Q I ro ri rv h => by
  rcases h with h | ⟨a, H', rfl, g, q⟩
  · exact set_list pins s σ H o i v ov iv u Q I ro ri rv h
  · cases ro
    exact d_setItem hu I g ri rv fun s' I' => ⟨H', I', q⟩
theorem good_put {K : PySem.W.Frag} {ι : List Addr} {P H : Hp} {c c' : Cell} {i d : D} {vi v : V} {a : Addr} {Q : Hp → Prop} (hp : ∀ a o, P a = some o → H a = some o) (e : gPut c i d = some c') (hc : CellAt K ι P H a c) (ri : Rep K ι P i vi) (rd : Rep K ι P d v)
    (k : ∀ ob, CellAt K ι P (upd H a ob) a c' → Q (upd H a ob)) : rPut H (.ref a) vi v Q := by
  cases c with
  | lst xs =>
    cases i with
    | int j =>
      obtain ⟨n, e1, rfl⟩ := Option.map_eq_some_iff.mp e
      obtain ⟨vs, h1, h2⟩ := hc
      unfold Rep at ri
      subst ri
      exact .inl ⟨a, vs, j, n, rfl, rfl, h1, by rw [← h2.length]; exact e1, k _ ⟨_, upd_same, h2.set n rd⟩⟩
    | _ => cases e
  | dK kvs =>
    obtain ⟨key, e1, e2⟩ := Option.bind_eq_some_iff.mp (show ((keyOf i).bind fun k => if kvs.length < sizeLine then some (Cell.dK (putKV kvs k d)) else none) = some c' by cases i <;> exact e)
    by_cases hl : kvs.length < sizeLine
    case neg => rw [if_neg hl] at e2; cases e2
    rw [if_pos hl] at e2
    cases e2
    obtain ⟨vs, h1, h2⟩ := hc
    have hv := keyOf_v e1 ri
    subst hv
    obtain ⟨us, f1, f2⟩ := putK_zip (k := key) rd h2
    have hlen : kvs.length = vs.length := by simpa using h2.length
    refine .inr ⟨a, _, rfl, DPut.k h1 (by simp [List.length_zip, hlen]; omega), k _ ⟨us, by rw [upd_same, f1], f2⟩⟩
  | dT kvs =>
    obtain ⟨key, e1, e2⟩ := Option.bind_eq_some_iff.mp (show ((tkeyOf i).bind fun k => if kvs.length < sizeLine then some (Cell.dT (putKV kvs k d)) else none) = some c' by cases i <;> exact e)
    by_cases hl : kvs.length < sizeLine
    case neg => rw [if_neg hl] at e2; cases e2
    rw [if_pos hl] at e2
    cases e2
    cases i with
    | tup ds =>
      obtain ⟨vs, h1, h2⟩ := hc
      unfold Rep at ri
      obtain ⟨b, ws, rfl, ht, hr⟩ := ri
      have hws := keysOf_v (show keysOf ds = some key from e1) hr
      subst hws
      obtain ⟨us, f1, f2⟩ := putK_zip (k := key) rd h2
      have hlen : kvs.length = vs.length := by simpa using h2.length
      exact .inr ⟨a, _, rfl, DPut.t h1 (hp _ _ ht) (by simp [List.length_zip, hlen]; omega), k _ ⟨us, by rw [upd_same, f1], f2⟩⟩
    | _ => cases e1
  | ins C fs => cases i <;> cases e
def sPut (fv : S → Res D) (o : Opd) (fi : S → Res D) : S → Fl := fun s => (fv s).fl fun d s1 => (o.run s1).fl fun x s2 => (fi s2).fl fun i s3 => match rcell o x s3 with
  | some c => (match gPut c i d with
    | some c' => .nx (rput o x s3 c')
    | none => .stuck)
  | none => .stuck
section
variable {X : Cx} {W : WX} {value ob ix : Expr} {st : Stmt} {o : Opd} {fv fi : S → Res D}
theorem js_put (h : PS X st (tAsg (tD X.K W fv) (gSub (tR X.K (RO X.K o) W o.run) (tD X.K W fi) fun o i v H Q => rPut H o i v Q))) : JS X W st (sPut fv o fi) :=
  ps_weak h fun A σ H ⟨s, ι, P, Z, hS, hO⟩ => tR_fl hS hO fun d s1 v H1 ι1 P1 x1 S1 r1 o1 => tR_fl S1 o1 fun x s2 u H2 ι2 P2 x2 S2 r2 o2 => tR_fl S2 o2 fun i s3 vi H3 ι3 P3 x3 S3 r3 o3 => by
    cases q : rcell o x s3 with
    | none => simp only [q] at o3; exact o3.elim
    | some c =>
      simp only [q] at o3
      obtain ⟨a, rfl, hc, wr⟩ := mut_ok (H0 := H2) (s0 := s2) S3 (r2.mono x3) q
      cases q2 : gPut c i d with
      | none => simp only [q2] at o3; exact o3.elim
      | some c' =>
        simp only [q2] at o3
        exact good_put S3.p q2 hc r3 (Rep.mono (x2.trans x3).x _ _ r1) fun ob h => OutS.nx o3 (wr ob c' h)
end
end PL
end

section
set_option Elab.async false
set_option linter.all false
set_option maxRecDepth 100000
set_option maxHeartbeats 2000000
namespace PL
open PySem PySem.Spec PyProof.Rows L2

/-! ### several worked out values in a row, none of them frozen: a, b = e1, e2 -/
def NewAt : Wv → V → Addr → Prop
  | .nw _, v, a => v = .ref a
  | .d _, _, _ => False
def InNew : List Wv → List V → Addr → Prop
  | w :: ws, v :: vs, a => NewAt w v a ∨ InNew ws vs a
  | _, _, _ => False
def WReps (K : PySem.W.Frag) (Z : Hp) (ι : List Addr) (P H : Hp) (s : S) (σ : L2.St) : List Wv → List V → Prop
  | [], vs => vs = []
  | w :: ws, vs => ∃ v r, vs = v :: r ∧ WRep K Z ι P H s σ w v ∧ (∀ a, NewAt w v a → ¬ InNew ws r a) ∧ WReps K Z ι P H s σ ws r
def RLW (K : PySem.W.Frag) : RT (List Wv) (List V) := fun Z σ ι P H s ws vs => WReps K Z ι P H s σ ws vs
abbrev JLW (X : Cx) (W : WX) (es : List Expr) (f : S → Res (List Wv)) : Prop := PA X es (tR X.K (RLW X.K) W f)
def wNil : S → Res (List Wv) := fun s => .ok [] s
def wCons (f : S → Res Wv) (g : S → Res (List Wv)) : S → Res (List Wv) := fun s => (f s).bind fun w s1 => (g s1).bind fun ws s2 => .ok (w :: ws) s2
def setWs : List Nat → List Wv → S → Option S
  | [], [], s => some s
  | i :: is, w :: ws, s => setWs is ws (setW i w s)
  | _, _, _ => none
def sPar (is : List Nat) (f : S → Res (List Wv)) : S → Fl := fun s => (f s).fl fun ws s1 => match setWs is ws s1 with
  | some s2 => .nx s2
  | none => .stuck
section
variable {K : PySem.W.Frag} {Z : Hp} {ι : List Addr} {P H : Hp} {s : S} {σ : L2.St}
theorem SRel.hold {a : Addr} {o : HO} (h : SRel K Z ι P H s σ) (e : H a = some o) (e1 : P a = none) (e2 : a ∉ ι) (e3 : ¬ Mine s σ a) : SRel K (upd Z a o) ι P H s σ where
  p := h.p
  z := fun b u q => by
    by_cases hb : b = a
    · subst hb; rw [upd_same] at q; cases q; exact e
    · rw [upd_ne hb] at q; exact h.z b u q
  nd := h.nd
  ιz := fun b hb => by rw [upd_ne (fun q : b = a => e2 (by rw [← q]; exact hb))]; exact h.ιz b hb
  ιp := h.ιp
  len := h.len
  cells := h.cells
  elen := h.elen
  env := fun i sl q => by
    have y := h.env i sl q
    cases sl with
    | no => trivial
    | d d => exact y
    | own c =>
      obtain ⟨b, f1, f2, f3, f4, hc⟩ := y
      exact ⟨b, f1, f2, by rw [upd_ne (fun z : b = a => e3 (by rw [← z]; exact ⟨i, c, q, f1⟩))]; exact f3, f4, hc⟩
  sep := h.sep
theorem SRel.unhold {a : Addr} {o : HO} (hz : Z a = none) (h : SRel K (upd Z a o) ι P H s σ) : SRel K Z ι P H s σ where
  p := h.p
  z := fun b u q => h.z b u (upd_some hz q)
  nd := h.nd
  ιz := fun b hb => by
    cases q : Z b with
    | none => rfl
    | some u => have z := h.ιz b hb; rw [upd_some hz q] at z; cases z
  ιp := h.ιp
  len := h.len
  cells := h.cells
  elen := h.elen
  env := fun i sl q => by
    have y := h.env i sl q
    cases sl with
    | no => trivial
    | d d => exact y
    | own c =>
      obtain ⟨b, f1, f2, f3, f4, hc⟩ := y
      refine ⟨b, f1, f2, ?_, f4, hc⟩
      cases q : Z b with
      | none => rfl
      | some u => rw [upd_some hz q] at f3; cases f3
  sep := h.sep
theorem WRep.unhold {a : Addr} {o : HO} (hz : Z a = none) {w : Wv} {v : V} (r : WRep K (upd Z a o) ι P H s σ w v) : WRep K Z ι P H s σ w v := by
  cases w with
  | d d => exact r
  | nw c =>
    obtain ⟨b, e, e1, e2, r⟩ := r
    refine ⟨b, e, e1, ?_, r⟩
    cases q : Z b with
    | none => rfl
    | some u => rw [upd_some hz q] at e2; cases e2
theorem WReps.unhold {a : Addr} {o : HO} (hz : Z a = none) : ∀ {ws : List Wv} {vs : List V}, WReps K (upd Z a o) ι P H s σ ws vs → WReps K Z ι P H s σ ws vs
  | [], vs, r => r
  | w :: ws, vs, r => by
    obtain ⟨v, t, e, h1, h2, h3⟩ := r
    exact ⟨v, t, e, WRep.unhold hz h1, h2, WReps.unhold hz h3⟩
theorem WReps.held {a : Addr} {o : HO} : ∀ {ws : List Wv} {vs : List V}, WReps K (upd Z a o) ι P H s σ ws vs → ¬ InNew ws vs a
  | [], vs, r => fun h => by cases vs <;> exact h
  | w :: ws, vs, r => by
    obtain ⟨v, t, rfl, h1, h2, h3⟩ := r
    rintro (h | h)
    · cases w with
      | d d => exact h
      | nw c =>
        obtain ⟨b, e, _, e2, _⟩ := h1
        have h : v = .ref a := h
        rw [h] at e; cases e
        rw [upd_same] at e2; cases e2
    · exact WReps.held h3 h
end
section
variable {X : Cx} {W : WX} {e : Expr} {es : List Expr} {pos : Pos} {f : S → Res Wv} {g : S → Res (List Wv)}
theorem jlw_nil : JLW X W [] wNil := pa_weak pa_nil fun σ H Q ⟨s, ι, P, Z, hS, hO⟩ => Out.ok hO hS rfl
theorem jlw_cons (h : JW X W e f) (h' : JLW X W es g) (hs : starEach (e :: es) X.env = (false, eval e X.env) :: starEach es X.env := by rfl) : JLW X W (e :: es) (wCons f g) :=
  pa_weak (pa_cons h h' hs) fun σ H Q ⟨s, ι, P, Z, hS, hO⟩ => tR_bind hS hO fun w s1 v H1 ι1 P1 x1 S1 r1 o1 => by
    cases w with
    | d d => exact tR_bind S1 o1 fun ws s2 vs H2 ι2 P2 x2 S2 r2 o2 => Out.ok o2 S2 ⟨v, vs, rfl, Rep.mono x2.x _ _ r1, fun a h => h.elim, r2⟩
    | nw c =>
      obtain ⟨a, rfl, e1, e2, e3, e4, hc⟩ := r1
      obtain ⟨o, ho⟩ := hc.ex
      have T1 := S1.hold ho e1 e3 e4
      refine ⟨s1, ι1, P1, _, T1, ?_⟩
      cases q : g s1 with
      | ok ws s2 =>
        rw [q] at o1
        intro vs H2 ι2 P2 x2 T2 r2
        have S2 := T2.unhold e2
        have x3 : XZ Z ι1 P1 ι2 P2 := ⟨x2.x, fun b u z => x2.z b u (upd_some e2 z)⟩
        have hP : P2 a = none := (x2.z a o upd_same).trans e1
        refine Out.okX o1 x3 S2 ⟨.ref a, vs, rfl, ⟨a, rfl, hP, e2, fun hm => ?_, fun hm => ?_, (hc.mono x2.x).heap ((T2.z a o upd_same).trans ho.symm)⟩, fun b hb => ?_, WReps.unhold e2 r2⟩
        · have z := T2.ιz a hm; rw [upd_same] at z; cases z
        · obtain ⟨_, z, _⟩ := T2.mineP hm; rw [upd_same] at z; cases z
        · have hb : V.ref a = V.ref b := hb
          cases hb
          exact WReps.held r2
      | err y s2 =>
        rw [q] at o1
        intro cl d H2 ι2 P2 x2 T2 r2
        exact o1 cl d H2 ι2 P2 ⟨x2.x, fun b u z => x2.z b u (upd_some e2 z)⟩ (T2.unhold e2) r2
      | stuck => rw [q] at o1; exact o1
/-- the values are stored one after another -/
theorem setWs_ok {K : PySem.W.Frag} {Z : Hp} {ι : List Addr} {P H : Hp} : ∀ {is : List Nat} {ws : List Wv} {vs : List V} {s s2 : S} {σ : L2.St}, SRel K Z ι P H s σ → WReps K Z ι P H s σ ws vs → setWs is ws s = some s2 →
    vs.length = is.length ∧ SRel K Z ι P H s2 ((is.zip vs).foldl (fun σ p => σ.set p.1 (some p.2)) σ)
  | [], [], vs, s, s2, σ, hS, r, e => by cases e; have r : vs = [] := r; subst r; exact ⟨rfl, hS⟩
  | [], w :: ws, vs, s, s2, σ, hS, r, e => by cases e
  | i :: is, [], vs, s, s2, σ, hS, r, e => by cases e
  | i :: is, w :: ws, vs, s, s2, σ, hS, r, e => by
    obtain ⟨v, t, rfl, h1, h2, h3⟩ := r
    have e : setWs is ws (setW i w s) = some s2 := e
    have S1 := hS.setW (i := i) h1
    have later : ∀ {ws : List Wv} {t : List V}, (∀ a, NewAt w v a → ¬ InNew ws t a) → WReps K Z ι P H s σ ws t → WReps K Z ι P H (setW i w s) (σ.set i (some v)) ws t := by
      intro ws
      induction ws with
      | nil => intro t _ r; exact r
      | cons w' ws ih =>
        intro t hd r
        obtain ⟨v', t', rfl, g1, g2, g3⟩ := r
        refine ⟨v', t', rfl, ?_, g2, ih (fun a ha hb => hd a ha (.inr hb)) g3⟩
        cases w' with
        | d d => exact g1
        | nw c =>
          obtain ⟨a, rfl, f1, f2, f3, f4, f5⟩ := g1
          refine ⟨a, rfl, f1, f2, f3, ?_, f5⟩
          rintro ⟨j, cj, m1, m2⟩
          have m1 : (s.env.set i w.sl)[j]? = some (.own cj) := m1
          by_cases hj : j = i
          · subst hj
            have hl : j < s.env.length := by
              have := (List.getElem?_eq_some_iff.mp m1).1
              simpa using this
            rw [List.getElem?_set_self hl] at m1
            rw [List.getElem?_set_self (by rw [← hS.elen]; exact hl)] at m2
            have m1 := Option.some.inj m1
            have m2 := Option.some.inj (Option.some.inj m2)
            cases w with
            | d d => cases m1
            | nw c' => exact hd a m2 (.inl rfl)
          · rw [List.getElem?_set_ne (Ne.symm hj)] at m1 m2
            exact f4 ⟨j, cj, m1, m2⟩
    obtain ⟨l, S2⟩ := setWs_ok S1 (later h2 h3) e
    exact ⟨by simp [l], S2⟩
/-- the same by the text's own way of storing -/
theorem js_parG {st : Stmt} {is : List Nat} {t : TS} (h : PS X st t) (k : ∀ A σ H, tR X.K (RLW X.K) W g σ H (fun vs H1 => vs.length = is.length ∧ ∀ H2, (∀ a o, H1 a = some o → H2 a = some o) → A.nx ((is.zip vs).foldl (fun σ p => σ.set p.1 (some p.2)) σ) H2) → t A σ H) : JS X W st (sPar is g) :=
  ps_weak h fun A σ H ⟨s, ι, P, Z, hS, hO⟩ => k A σ H (tR_fl hS hO fun ws s1 vs H1 ι1 P1 x1 S1 r1 o1 => by
    cases q : setWs is ws s1 with
    | none => simp only [q] at o1; exact o1.elim
    | some s2 =>
      simp only [q] at o1
      obtain ⟨l, S2⟩ := setWs_ok S1 r1 q
      exact ⟨l, fun H2 hk => OutS.nx o1 (S2.heap hk)⟩)
theorem tR_mono {α β : Type} {K : PySem.W.Frag} {R : RT α β} {f : S → Res α} {σ : L2.St} {H : Hp} {Q Q' : β → Hp → Prop} (h : tR K R W f σ H Q) (k : ∀ b H, Q b H → Q' b H) : tR K R W f σ H Q' := by
  obtain ⟨s, ι, P, Z, hS, hO⟩ := h
  refine ⟨s, ι, P, Z, hS, ?_⟩
  cases q : f s with
  | ok a s1 => rw [q] at hO; exact fun b H' ι' P' x S1 r => k _ _ (hO b H' ι' P' x S1 r)
  | err y s1 => rw [q] at hO; exact hO
  | stuck => rw [q] at hO; exact hO
theorem len2 {α : Type} {vs : List α} (h : vs.length = 2) : ∃ a b, vs = [a, b] := match vs, h with
  | [a, b], _ => ⟨a, b, rfl⟩
theorem len3 {α : Type} {vs : List α} (h : vs.length = 3) : ∃ a b c, vs = [a, b, c] := match vs, h with
  | [a, b, c], _ => ⟨a, b, c, rfl⟩
theorem js_par2 {st : Stmt} {i j : Nat} (h : PS X st (tPar i j (tR X.K (RLW X.K) W g))) : JS X W st (sPar [i, j] g) := js_parG h fun A σ H q => tR_mono q fun vs H1 ⟨l, k⟩ => by
  obtain ⟨a, b, rfl⟩ := len2 l
  exact ⟨a, b, rfl, k H1 fun _ _ e => e⟩
theorem js_par3 {st : Stmt} {i j l : Nat} (h : PS X st (tPar3 i j l (tR X.K (RLW X.K) W g))) : JS X W st (sPar [i, j, l] g) := js_parG h fun A σ H q => tR_mono q fun vs H1 ⟨hl, k⟩ => by
  obtain ⟨a, b, c, rfl⟩ := len3 hl
  exact ⟨a, b, c, rfl, k H1 fun _ _ e => e⟩
/-- by a tuple that is made and opened: gs store the names is -/
def gIs : List Nat → TGs
  | [] => gNil
  | i :: is => gCons (gName i) (gIs is)
theorem gIs_ok : ∀ {is : List Nat} {vs : List V} {σ : L2.St} {H : Hp} {Q : L2.St → Hp → Prop}, vs.length = is.length → Q ((is.zip vs).foldl (fun σ p => σ.set p.1 (some p.2)) σ) H → gIs is vs σ H Q
  | [], [], σ, H, Q, _, q => ⟨rfl, q⟩
  | i :: is, v :: vs, σ, H, Q, l, q => ⟨v, vs, rfl, gIs_ok (by simpa using l) q⟩
theorem js_parN {st : Stmt} {is : List Nat} {n : Nat} (hn : is.length = n) (hz : n ≤ 1000) (h : PS X st (tAsg (tTup (tR X.K (RLW X.K) W g)) (gTup X.K n (gIs is)))) : JS X W st (sPar is g) := js_parG h fun A σ H q =>
  tR_mono (Q' := fun vs H1 => vs.length ≤ sizeLine ∧ ∀ p, H1 p = none → gTup X.K n (gIs is) (.ref p) σ (upd H1 p (.tup vs)) A.nx) q fun vs H1 ⟨l, k⟩ => by
    refine ⟨by have : sizeLine = 16777216 := sizeLine_eq; omega, fun p hp => ⟨p, vs, rfl, SqT.of upd_same, l.trans hn, gIs_ok l (k _ fun a o e => upd_some hp e)⟩⟩
end

/-! ### a call that cannot see the store -/
def cIso (f : Fn) (args : S → Res (List D)) (dfl : List D) : S → Res Wv := fun s => (args s).bind fun ds s1 => if nrs (ds ++ dfl) = true then (match f (ds ++ dfl) [] with
  | .ok (.d d) _ => if d.nr = true then .ok (.d d) s1 else .stuck
  | .ok (.nw c) _ => if c.nr = true then .ok (.nw c) s1 else .stuck
  | .err x _ => if nrs (x.fs.map (·.2)) = true then .err x s1 else .stuck
  | .stuck => .stuck) else .stuck
end PL
end

section
set_option Elab.async false
set_option linter.all false
set_option maxRecDepth 100000
set_option maxHeartbeats 2000000
namespace PL
open PySem PySem.Spec PyProof.Rows L2

/-! ### what is walked -/
def signs (z : Str) : List D := z.cps.toList.map fun c => .str ⟨#[c]⟩
def itemsOf : D → Option (List D)
  | .lst xs => some xs
  | .tup xs => some xs
  | .kt xs => some xs
  | .scr ns => some (ns.map D.int)
  | .str z => some (signs z)
  | _ => none
def iSeq (f : S → Res D) : S → Res (List D) := fun s => (f s).bind fun d s1 => Res.lift (itemsOf d) s1
def upTo (lo : Int) (n : Nat) : List D := (List.range n).map fun (k : Nat) => .int (lo + (k : Int))
def gRng1 : List D → Option (List D)
  | [.int j] => if -(2 ^ 62) ≤ j ∧ j < 2 ^ 62 then some (upTo 0 j.toNat) else none
  | _ => none
def gRng2 : List D → Option (List D)
  | [.int i, .int j] => if (-(2 ^ 62) ≤ i ∧ i < 2 ^ 62) ∧ -(2 ^ 62) ≤ j ∧ j < 2 ^ 62 then some (upTo i (j - i).toNat) else none
  | _ => none
def upBy (lo c : Int) (n : Nat) : List D := (List.range n).map fun (k : Nat) => .int (lo + (k : Int) * c)
def gRng3 : List D → Option (List D)
  | [.int i, .int j, .int c] => if (c ≠ 0 ∧ c.natAbs < 1073741824 ∧ Builtin.Range.small i j c = true) ∧ 0 ≤ Builtin.Range.rangeSize i j c then some (upBy i c (Builtin.Range.rangeSize i j c).toNat) else none
  | _ => none
def iRng (g : List D → Option (List D)) (f : S → Res (List D)) : S → Res (List D) := fun s => (f s).bind fun ds s1 => Res.lift (g ds) s1
section
variable {K : PySem.W.Frag} {ι : List Addr} {P : Hp}
theorem it_list {a : Addr} {xs : List D} {vs : List V} (h : P a = some (.lst vs)) (r : Reps K ι P xs vs) : ItOK K (Itl K a) xs ι P := fun ι' P' H x hp => by
  have ha : SqL K H a vs := SqL.of (hp _ _ (x.p _ _ h))
  refine ⟨fun i d e => ?_, ⟨vs, ha, Nat.le_of_eq r.length.symm⟩⟩
  obtain ⟨v, hv, rv⟩ := r.get e
  refine ⟨⟨vs, v, ha, hv⟩, fun y H' ⟨e1, e2⟩ => ?_⟩
  subst e1
  have := e2 vs ha
  rw [hv] at this; cases this
  exact ⟨P', Done.same hp (Rep.mono x _ _ rv)⟩
theorem it_scr {a : Addr} {ns : List Int} (h : SqL K P a (ns.map V.int)) : ItOK K (Itl K a) (ns.map D.int) ι P := fun ι' P' H x hp => by
  have ha : SqL K H a (ns.map V.int) := SqL.mono hp (SqL.mono x.p h)
  refine ⟨fun i d e => ?_, ⟨_, ha, by simp⟩⟩
  obtain ⟨v, hv, rv⟩ := (Reps.ints (K := K) (ι := ι') (P := P') ns).get e
  refine ⟨⟨_, v, ha, hv⟩, fun y H' ⟨e1, e2⟩ => ?_⟩
  subst e1
  have := e2 _ ha
  rw [hv] at this; cases this
  exact ⟨P', Done.same hp rv⟩
theorem it_tup {a : Addr} {xs : List D} {vs : List V} (h : SqT K P a vs) (r : Reps K ι P xs vs) : ItOK K (Itt K a) xs ι P := fun ι' P' H x hp => by
  have ha : SqT K H a vs := SqT.mono hp (SqT.mono x.p h)
  refine ⟨fun i d e => ?_, ⟨vs, ha, Nat.le_of_eq r.length.symm⟩⟩
  obtain ⟨v, hv, rv⟩ := r.get e
  refine ⟨⟨vs, v, ha, hv⟩, fun y H' ⟨e1, e2⟩ => ?_⟩
  subst e1
  have := e2 vs ha
  rw [hv] at this; cases this
  exact ⟨P', Done.same hp (Rep.mono x _ _ rv)⟩
theorem it_str {z : Str} : ItOK K (Its z) (signs z) ι P := fun ι' P' H x hp => by
  refine ⟨fun i d e => ?_, by show z.cps.size ≤ (signs z).length; unfold signs; simp⟩
  unfold signs at e
  rw [List.getElem?_map] at e
  obtain ⟨c, hc, rfl⟩ := Option.map_eq_some_iff.mp e
  have hc' : z.cps[i]? = some c := by rw [← Array.getElem?_toList]; exact hc
  refine ⟨(Array.getElem?_eq_some_iff.mp hc').1, fun y H' ⟨e1, c2, e2, e3⟩ => ?_⟩
  subst e1
  rw [hc'] at e2; cases e2
  subst e3
  exact ⟨P', Done.same hp rep_str⟩
theorem it_rng {lo : Int} {n : Nat} : ItOK K (Itr lo n) (upTo lo n) ι P := fun ι' P' H x hp => by
  refine ⟨fun i d e => ?_, by show n ≤ (upTo lo n).length; unfold upTo; simp⟩
  unfold upTo at e
  rw [List.getElem?_map] at e
  obtain ⟨c, hc, rfl⟩ := Option.map_eq_some_iff.mp e
  obtain ⟨h1, h2⟩ := List.getElem?_eq_some_iff.mp hc
  rw [List.getElem_range] at h2
  subst h2
  refine ⟨by rw [List.length_range] at h1; exact h1, fun y H' ⟨e1, e2⟩ => ?_⟩
  subst e1
  subst e2
  exact ⟨P', Done.same hp rep_int⟩
end
section
variable {X : Cx} {W : WX} {tg e : Expr} {f : S → Res D}
theorem pi_weak {wi wi' : TI} (h : PI X tg e wi) (k : ∀ σ H R, wi' σ H R → wi σ H R) : PI X tg e wi' := ⟨fun pins s σ H R I q => h.run pins s σ H R I (k _ _ _ q)⟩
theorem pi_or {wi wi' : TI} (h : PI X tg e wi) (h' : PI X tg e wi') : PI X tg e (fun σ H R => wi σ H R ∨ wi' σ H R) := ⟨fun pins s σ H R I q => by
  rcases q with q | q
  · exact h.run pins s σ H R I q
  · exact h'.run pins s σ H R I q⟩
/-- a list, a tuple or a text, as it is worked out -/
theorem ji_seq (h : JD X W e f) : JI X W tg e (iSeq f) := pi_weak (pi_or (pi_list h) (pi_or (pi_tup h) (pi_str h))) fun σ H R ⟨s, ι, P, Z, hS, hO⟩ => by
  have b1 : ∀ {d : D} {s1 : S} {ds : List D}, f s = .ok d s1 → itemsOf d = some ds → Out X.K (RI X.K) W Z ι P σ R (.ok ds s1) := fun {d s1 ds} e1 e2 => by
    have hO : Out X.K (RI X.K) W Z ι P σ R ((f s).bind fun d s1 => Res.lift (itemsOf d) s1) := hO
    rw [e1] at hO
    have hO : Out X.K (RI X.K) W Z ι P σ R (Res.lift (itemsOf d) s1) := hO
    rw [e2] at hO
    exact hO
  cases q : f s with
  | err x s1 =>
    refine .inl ⟨s, ι, P, Z, hS, ?_⟩
    have hO : Out X.K (RI X.K) W Z ι P σ R ((f s).bind fun d s1 => Res.lift (itemsOf d) s1) := hO
    rw [q] at hO ⊢
    exact hO
  | stuck =>
    have hO : Out X.K (RI X.K) W Z ι P σ R ((f s).bind fun d s1 => Res.lift (itemsOf d) s1) := hO
    rw [q] at hO
    exact hO.elim
  | ok d s1 =>
    have nope : itemsOf d = none → False := fun e2 => by
      have hO : Out X.K (RI X.K) W Z ι P σ R ((f s).bind fun d s1 => Res.lift (itemsOf d) s1) := hO
      rw [q] at hO
      have hO : Out X.K (RI X.K) W Z ι P σ R (Res.lift (itemsOf d) s1) := hO
      rw [e2] at hO
      exact hO
    have tup : ∀ {xs : List D}, itemsOf d = some xs → (∀ {ι1 P1 v}, Rep X.K ι1 P1 d v → ∃ a vs, v = .ref a ∧ SqT X.K P1 a vs ∧ Reps X.K ι1 P1 xs vs) → iTup X.K (tD X.K W f) σ H R := fun {xs} e2 k => by
      refine ⟨s, ι, P, Z, hS, ?_⟩
      rw [q]
      intro v H1 ι1 P1 x1 S1 r1
      obtain ⟨a, vs, rfl, h1, h2⟩ := k r1
      exact ⟨a, rfl, ⟨vs, SqT.mono S1.p h1⟩, b1 q e2 _ H1 ι1 P1 x1 S1 (it_tup h1 h2)⟩
    cases d with
    | lst xs =>
      refine .inl ⟨s, ι, P, Z, hS, ?_⟩
      rw [q]
      intro v H1 ι1 P1 x1 S1 r1
      have r1 : Rep X.K ι1 P1 (.lst xs) v := r1
      unfold Rep at r1
      obtain ⟨a, vs, rfl, h1, h2⟩ := r1
      exact ⟨a, rfl, ⟨vs, SqL.of (S1.p _ _ h1)⟩, b1 q rfl _ H1 ι1 P1 x1 S1 (it_list h1 h2)⟩
    | scr ns =>
      refine .inl ⟨s, ι, P, Z, hS, ?_⟩
      rw [q]
      intro v H1 ι1 P1 x1 S1 r1
      have r1 : Rep X.K ι1 P1 (.scr ns) v := r1
      unfold Rep at r1
      obtain ⟨a, rfl, h1⟩ := r1
      exact ⟨a, rfl, ⟨_, SqL.mono S1.p h1⟩, b1 q rfl _ H1 ι1 P1 x1 S1 (it_scr h1)⟩
    | tup xs => exact .inr (.inl (tup rfl fun {ι1 P1 v} r => by unfold Rep at r; obtain ⟨a, vs, e, h1, h2⟩ := r; exact ⟨a, vs, e, SqT.of h1, h2⟩))
    | kt xs => exact .inr (.inl (tup rfl fun {ι1 P1 v} r => by unfold Rep at r; exact r))
    | str z =>
      refine .inr (.inr ⟨s, ι, P, Z, hS, ?_⟩)
      rw [q]
      intro v H1 ι1 P1 x1 S1 r1
      have r1 : Rep X.K ι1 P1 (.str z) v := r1
      unfold Rep at r1
      subst r1
      exact ⟨z, rfl, b1 q rfl _ H1 ι1 P1 x1 S1 it_str⟩
    | _ => exact (nope rfl).elim
/-- range(a), range(a, b), range(a, b, c) -/
theorem rng_o {K : PySem.W.Frag} {g : List D → Option (List D)} {fa : S → Res (List D)} {σ : L2.St} {H : Hp} {R : It → Hp → Prop} (h : tR K (RI K) W (iRng g fa) σ H R) {Q : List V → Hp → Prop}
    (k : ∀ {ι : List Addr} {P H1 : Hp} {ds l : List D} {vs : List V}, Reps K ι P ds vs → g ds = some l → (∀ J, ItOK K J l ι P → R J H1) → Q vs H1) : tL K W fa σ H Q := by
  obtain ⟨s, ι, P, Z, hS, hO⟩ := h
  refine tR_bind hS hO fun ds s1 vs H1 ι1 P1 x1 S1 r1 o1 => ?_
  cases e : g ds with
  | none => rw [e] at o1; exact o1.elim
  | some l => rw [e] at o1; exact k r1 e fun J hJ => Out.ok o1 S1 hJ
theorem ji_rng1 {a : Expr} {p pos : Pos} {fa : S → Res (List D)} (hg : Gl X "range") (hm : X.mg "range" = none) (ha : JL X W [a] fa) (hs : starEach [a] X.env = [(false, eval a X.env)] := by rfl) : JI X W tg (.Call (.Name "range" p) [a] [] pos) (iRng gRng1 fa) :=
  pi_weak (pi_range1 hg hm ha hs) fun σ H R h => rng_o h fun {ι P H1 ds l vs} r e k => by
    match ds, e with
    | [.int j], e =>
      obtain ⟨v, r, rfl, h1, h2⟩ := Reps.uncons r
      unfold Reps at h2
      unfold Rep at h1
      subst h1 h2
      simp only [gRng1] at e
      by_cases c : -(2 ^ 62) ≤ j ∧ j < 2 ^ 62
      case neg => rw [if_neg c] at e; cases e
      rw [if_pos c] at e
      cases e
      exact ⟨j, rfl, c.1, c.2, k _ it_rng⟩
theorem ji_rng2 {a b : Expr} {p pos : Pos} {fa : S → Res (List D)} (hg : Gl X "range") (hm : X.mg "range" = none) (ha : JL X W [a, b] fa) (hs : starEach [a, b] X.env = [(false, eval a X.env), (false, eval b X.env)] := by rfl)
    (hs2 : starEach [b] X.env = [(false, eval b X.env)] := by rfl) : JI X W tg (.Call (.Name "range" p) [a, b] [] pos) (iRng gRng2 fa) :=
  pi_weak (pi_range2 hg hm ha hs hs2) fun σ H R h => rng_o h fun {ι P H1 ds l vs} r e k => by
    match ds, e with
    | [.int i, .int j], e =>
      obtain ⟨v, r, rfl, h1, h2⟩ := Reps.uncons r
      obtain ⟨u, r, rfl, h3, h4⟩ := Reps.uncons h2
      unfold Reps at h4
      unfold Rep at h1 h3
      subst h1 h3 h4
      simp only [gRng2] at e
      by_cases c : (-(2 ^ 62) ≤ i ∧ i < 2 ^ 62) ∧ -(2 ^ 62) ≤ j ∧ j < 2 ^ 62
      case neg => rw [if_neg c] at e; cases e
      rw [if_pos c] at e
      cases e
      exact ⟨i, j, rfl, ⟨c.1.1, c.1.2, c.2.1, c.2.2⟩, k _ it_rng⟩
theorem it_rngC {K : PySem.W.Frag} {ι : List Addr} {P : Hp} {lo c : Int} {n : Nat} : ItOK K (Itc lo c n) (upBy lo c n) ι P := fun ι' P' H x hp => by
  refine ⟨fun i d e => ?_, by show n ≤ (upBy lo c n).length; unfold upBy; simp⟩
  unfold upBy at e
  rw [List.getElem?_map] at e
  obtain ⟨m, hc, rfl⟩ := Option.map_eq_some_iff.mp e
  obtain ⟨h1, h2⟩ := List.getElem?_eq_some_iff.mp hc
  rw [List.getElem_range] at h2
  subst h2
  refine ⟨by rw [List.length_range] at h1; exact h1, fun y H' ⟨e1, e2⟩ => ?_⟩
  subst e1
  subst e2
  exact ⟨P', Done.same hp rep_int⟩
theorem ji_rng3 {a b c : Expr} {p pos : Pos} {fa : S → Res (List D)} (hg : Gl X "range") (hm : X.mg "range" = none) (ha : JL X W [a, b, c] fa)
    (hs : starEach [a, b, c] X.env = (false, eval a X.env) :: starEach [b, c] X.env := by rfl) (hpl : (backTo pos (starEach [b, c] X.env)).any (·.1) = false := by rfl) : JI X W tg (.Call (.Name "range" p) [a, b, c] [] pos) (iRng gRng3 fa) :=
  pi_weak (pi_range3 hg hm ha hs hpl) fun σ H R h => rng_o h fun {ι P H1 ds l vs} r e k => by
    match ds, e with
    | [.int i, .int j, .int c], e =>
      obtain ⟨v, r, rfl, h1, h2⟩ := Reps.uncons r
      obtain ⟨u, r, rfl, h3, h4⟩ := Reps.uncons h2
      obtain ⟨w, r, rfl, h5, h6⟩ := Reps.uncons h4
      unfold Reps at h6
      unfold Rep at h1 h3 h5
      subst h1 h3 h5 h6
      simp only [gRng3] at e
      by_cases q : (c ≠ 0 ∧ c.natAbs < 1073741824 ∧ Builtin.Range.small i j c = true) ∧ 0 ≤ Builtin.Range.rangeSize i j c
      case neg => rw [if_neg q] at e; cases e
      rw [if_pos q] at e
      cases e
      exact ⟨i, j, c, _, rfl, ⟨q.1.1, q.1.2.1, q.1.2.2, (Int.toNat_of_nonneg q.2).symm⟩, k _ it_rngC⟩
end
end PL
end

section
set_option Elab.async false
set_option linter.all false
set_option maxRecDepth 100000
set_option maxHeartbeats 2000000
namespace PL
open PySem PySem.Spec PyProof.Rows L2

/-! ### comprehensions -/
/-- a target: one name, or a tuple of names -/
inductive CT where
  | n (i : Nat) | t (is : List Nat)
def setDs : List Nat → List D → S → Option S
  | [], [], s => some s
  | i :: is, d :: ds, s => setDs is ds ⟨s.env.set i (.d d), s.st⟩
  | _, _, _ => none
def CT.put : CT → D → S → Option S
  | .n i, d, s => some ⟨s.env.set i (.d d), s.st⟩
  | .t is, .tup ds, s => setDs is ds s
  | .t is, .kt ds, s => setDs is ds s
  | .t _, _, _ => none
def CT.tg (K : PySem.W.Frag) : CT → TG
  | .n i => gName i
  | .t is => gTup K is.length (gIs is)
def CT.slots : CT → List Nat
  | .n i => [i]
  | .t is => is
def wipeS : List Nat → S → S
  | [], s => s
  | i :: is, s => let t := wipeS is s; ⟨t.env.set i .no, t.st⟩
def Sl.isOwn : Sl → Bool
  | .own _ => true
  | _ => false
/-- the slots is get back what they had -/
def backS (is : List Nat) (s0 s : S) : S := ⟨is.foldr (fun i (env : PEnv) => env.set i (s0.env.getD i .no)) s.env, s.st⟩
def compL (ct : CT) (own : List Nat) (tt : S → Res Bool) (te : S → Res D) : List D → S → Res (List D)
  | [], s => .ok [] (wipeS own s)
  | d :: ds, s => (match ct.put d (wipeS own s) with
    | none => .stuck
    | some s1 => (match tt s1 with
      | .ok true s2 => (match te s2 with
        | .ok y s3 => (match compL ct own tt te ds s3 with
          | .ok ys s4 => .ok (y :: ys) s4
          | _ => .stuck)
        | _ => .stuck)
      | .ok false s2 => compL ct own tt te ds s2
      | _ => .stuck))
def cComp (it : S → Res (List D)) (ct : CT) (own : List Nat) (tt : S → Res Bool) (te : S → Res D) : S → Res Wv := fun s => (it s).bind fun ds s1 =>
  if ds.length ≤ sizeLine ∧ (own.all fun i => !(s1.env.getD i .no).isOwn) = true then (match compL ct own tt te ds s1 with
    | .ok ys s2 => .ok (.nw (.lst ys)) (backS own s1 s2)
    | _ => .stuck) else .stuck
def cYes : S → Res Bool := fun s => .ok true s
/-- no exception is wished for -/
abbrev W0 : WX := fun _ _ _ _ => False

section
variable {K : PySem.W.Frag} {Z : Hp} {ι : List Addr} {P H : Hp} {s : S} {σ : L2.St}
theorem SRel.wipe (h : SRel K Z ι P H s σ) : ∀ is : List Nat, SRel K Z ι P H (wipeS is s) (L2.wipe σ is)
  | [] => h
  | i :: is => (h.wipe is).setNo
theorem set_comm' {α : Type} {l : List α} {i j : Nat} {a b : α} (h : i ≠ j) : (l.set i a).set j b = (l.set j b).set i a := List.set_comm _ _ h
theorem wipe_set {i : Nat} {u : Option V} : ∀ {is : List Nat}, i ∈ is → L2.wipe (σ.set i u) is = L2.wipe σ is
  | [], h => absurd h (by simp)
  | j :: is, h => by
    show (L2.wipe (σ.set i u) is).set j none = (L2.wipe σ is).set j none
    by_cases q : i ∈ is
    · rw [wipe_set q]
    · have e : i = j := by
        rcases List.mem_cons.mp h with h | h
        · exact h
        · exact absurd h q
      subst e
      have out : ∀ {is : List Nat}, i ∉ is → L2.wipe (σ.set i u) is = (L2.wipe σ is).set i u := by
        intro is
        induction is with
        | nil => intro _; rfl
        | cons k is ih =>
          intro hk
          show (L2.wipe (σ.set i u) is).set k none = ((L2.wipe σ is).set k none).set i u
          rw [ih fun z => hk (List.mem_cons_of_mem _ z)]
          exact set_comm' fun z => hk (by rw [z]; simp)
      rw [out q]
      simp
theorem wipe_wipe {is : List Nat} : ∀ {js : List Nat}, (∀ j ∈ js, j ∈ is) → L2.wipe (L2.wipe σ js) is = L2.wipe σ is
  | [], _ => rfl
  | j :: js, h => by
    show L2.wipe ((L2.wipe σ js).set j none) is = L2.wipe σ is
    rw [wipe_set (h j (by simp)), wipe_wipe fun k hk => h k (List.mem_cons_of_mem _ hk)]
theorem wipe_fold {is : List Nat} : ∀ {js : List Nat} {vs : List V} {σ : L2.St}, (∀ j ∈ js, j ∈ is) → L2.wipe ((js.zip vs).foldl (fun σ p => σ.set p.1 (some p.2)) σ) is = L2.wipe σ is
  | [], vs, σ, _ => rfl
  | j :: js, [], σ, _ => rfl
  | j :: js, v :: vs, σ, h => by
    show L2.wipe ((js.zip vs).foldl (fun σ p => σ.set p.1 (some p.2)) (σ.set j (some v))) is = _
    rw [wipe_fold fun k hk => h k (List.mem_cons_of_mem _ hk), wipe_set (h j (by simp))]
theorem setDs_ok : ∀ {is : List Nat} {ds : List D} {vs : List V} {s s2 : S} {σ : L2.St}, SRel K Z ι P H s σ → Reps K ι P ds vs → setDs is ds s = some s2 →
    vs.length = is.length ∧ SRel K Z ι P H s2 ((is.zip vs).foldl (fun σ p => σ.set p.1 (some p.2)) σ)
  | [], [], vs, s, s2, σ, hS, r, e => by cases e; unfold Reps at r; subst r; exact ⟨rfl, hS⟩
  | [], d :: ds, vs, s, s2, σ, hS, r, e => by cases e
  | i :: is, [], vs, s, s2, σ, hS, r, e => by cases e
  | i :: is, d :: ds, vs, s, s2, σ, hS, r, e => by
    obtain ⟨v, t, rfl, h1, h2⟩ := r.uncons
    obtain ⟨l, S2⟩ := setDs_ok (SRel.setW (w := .d d) hS h1) h2 (show setDs is ds (setW i (.d d) s) = some s2 from e)
    exact ⟨by simp [l], S2⟩
/-- a target takes a value -/
theorem CT.ok {ct : CT} {d : D} {v : V} {s1 : S} {Q : L2.St → Hp → Prop} (hS : SRel K Z ι P H s σ) (r : Rep K ι P d v) (e : ct.put d s = some s1)
    (k : ∀ σ' : L2.St, SRel K Z ι P H s1 σ' → (∀ is : List Nat, (∀ j ∈ ct.slots, j ∈ is) → L2.wipe σ' is = L2.wipe σ is) → Q σ' H) : ct.tg K v σ H Q := by
  cases ct with
  | n i =>
    cases e
    exact k _ (SRel.setW (w := .d d) hS r) fun is h => wipe_set (h i (by simp [CT.slots]))
  | t is =>
    have go : ∀ {ds : List D} {vs : List V} {a : Addr}, v = .ref a → SqT K H a vs → Reps K ι P ds vs → setDs is ds s = some s1 → gTup K is.length (gIs is) v σ H Q := fun {ds vs a} ev ht hr e => by
      subst ev
      obtain ⟨l, S2⟩ := setDs_ok hS hr e
      exact ⟨a, vs, rfl, ht, l, gIs_ok l (k _ S2 fun js h => wipe_fold h)⟩
    cases d with
    | tup ds =>
      unfold Rep at r
      obtain ⟨a, vs, ev, h1, h2⟩ := r
      exact go ev (SqT.of (hS.p _ _ h1)) h2 e
    | kt ds =>
      unfold Rep at r
      obtain ⟨a, vs, ev, h1, h2⟩ := r
      exact go ev (SqT.mono hS.p h1) h2 e
    | _ => cases e
theorem backS_get {is : List Nat} {s0 s : S} : ∀ j, j ∉ is → (backS is s0 s).env[j]? = s.env[j]? := by
  intro j
  unfold backS
  induction is with
  | nil => intro _; rfl
  | cons i is ih =>
    intro h
    show ((is.foldr (fun i (env : PEnv) => env.set i (s0.env.getD i .no)) s.env).set i (s0.env.getD i .no))[j]? = _
    rw [List.getElem?_set_ne (fun z => h (by rw [z]; simp))]
    exact ih fun z => h (List.mem_cons_of_mem _ z)
theorem backS_len {is : List Nat} {s0 s : S} : (backS is s0 s).env.length = s.env.length := by
  unfold backS
  induction is with
  | nil => rfl
  | cons i is ih =>
    show ((is.foldr (fun i (env : PEnv) => env.set i (s0.env.getD i .no)) s.env).set i (s0.env.getD i .no)).length = _
    rw [List.length_set]; exact ih
theorem backS_in {is : List Nat} {s0 s : S} (hl : s0.env.length = s.env.length) : ∀ j, j ∈ is → (backS is s0 s).env[j]? = s0.env[j]? := by
  intro j
  have len : ∀ is : List Nat, (is.foldr (fun i (env : PEnv) => env.set i (s0.env.getD i .no)) s.env).length = s.env.length := fun is => backS_len (is := is) (s0 := s0) (s := s)
  unfold backS
  induction is with
  | nil => intro h; exact absurd h (by simp)
  | cons i is ih =>
    intro h
    show ((is.foldr (fun i (env : PEnv) => env.set i (s0.env.getD i .no)) s.env).set i (s0.env.getD i .no))[j]? = _
    by_cases q : j = i
    · subst q
      by_cases hj : j < s.env.length
      · rw [List.getElem?_set_self (by rw [len]; exact hj), List.getD_eq_getElem?_getD, List.getElem?_eq_getElem (by rw [hl]; exact hj)]
        rfl
      · rw [List.getElem?_eq_none (by rw [List.length_set, len]; omega), List.getElem?_eq_none (by omega)]
    · rw [List.getElem?_set_ne (Ne.symm q)]
      exact ih ((List.mem_cons.mp h).resolve_left q)
/-- behind a comprehension: the slots is as they were -/
theorem SRel.back {ι1 : List Addr} {P1 H1 : Hp} {s0 : S} {is : List Nat} (h0 : SRel K Z ι P H s0 σ) (x : XZ Z ι P ι1 P1) (h : SRel K Z ι1 P1 H1 s (L2.wipe σ is)) (no : ∀ i ∈ is, (s0.env.getD i .no).isOwn = false) :
    SRel K Z ι1 P1 H1 (backS is s0 s) σ := by
  have hl : s0.env.length = s.env.length := by rw [h0.elen, h.elen, L2.wipe_length]
  have nown : ∀ (i : Nat) (c : Cell), i ∈ is → (backS is s0 s).env[i]? ≠ some (.own c) := fun i c hi e => by
    rw [backS_in hl i hi] at e
    have z := no i hi
    rw [List.getD_eq_getElem?_getD, e] at z
    cases z
  refine ⟨h.p, h.z, h.nd, h.ιz, h.ιp, h.len, h.cells, by rw [backS_len, ← hl, h0.elen], fun i sl e => ?_, fun i j a ci cj e1 e2 e3 e4 => ?_⟩
  · by_cases hi : i ∈ is
    · cases sl with
      | no => trivial
      | own c => exact absurd e (nown i c hi)
      | d d =>
        rw [backS_in hl i hi] at e
        obtain ⟨v, e1, r⟩ := h0.env i _ e
        exact ⟨v, e1, Rep.mono x.x _ _ r⟩
    · rw [backS_get i hi] at e
      have y := h.env i sl e
      have out : (L2.wipe σ is)[i]? = σ[i]? := L2.wipe_out hi
      cases sl with
      | no => trivial
      | d d => obtain ⟨v, e1, r⟩ := y; exact ⟨v, out.symm.trans e1, r⟩
      | own c => obtain ⟨a, e1, r⟩ := y; exact ⟨a, out.symm.trans e1, r⟩
  · have h1 : i ∉ is := fun hi => nown i ci hi e1
    have h2 : j ∉ is := fun hi => nown j cj hi e2
    rw [backS_get i h1] at e1
    rw [backS_get j h2] at e2
    exact h.sep i j a ci cj e1 e2 ((L2.wipe_out h1).trans e3) ((L2.wipe_out h2).trans e4)
end
theorem wipeS_twice (is : List Nat) (s : S) : wipeS is (wipeS is s) = wipeS is s := by
  have at_ : ∀ (is : List Nat) (j : Nat), j ∈ is → (wipeS is s).env.set j .no = (wipeS is s).env := by
    intro is
    induction is with
    | nil => intro j h; exact absurd h (by simp)
    | cons k is ih =>
      intro j h
      show ((wipeS is s).env.set k .no).set j .no = (wipeS is s).env.set k .no
      by_cases q : j = k
      · subst q; simp
      · rw [set_comm' (Ne.symm q), ih j ((List.mem_cons.mp h).resolve_left q)]
  have gen : ∀ (js : List Nat), (∀ j ∈ js, j ∈ is) → wipeS js (wipeS is s) = wipeS is s := by
    intro js
    induction js with
    | nil => intro _; rfl
    | cons j js ih =>
      intro h
      show (⟨(wipeS js (wipeS is s)).env.set j .no, (wipeS js (wipeS is s)).st⟩ : S) = _
      rw [ih fun k hk => h k (List.mem_cons_of_mem _ hk), at_ is j (h j (by simp))]
  exact gen is fun _ h => h
theorem compL_wipe {ct : CT} {own : List Nat} {tt : S → Res Bool} {te : S → Res D} {s : S} : ∀ ds : List D, compL ct own tt te ds (wipeS own s) = compL ct own tt te ds s
  | [] => by simp only [compL, wipeS_twice]
  | d :: ds => by simp only [compL, wipeS_twice]
theorem SRel.rehold {K : PySem.W.Frag} {Z : Hp} {ι : List Addr} {P H : Hp} {s : S} {σ : L2.St} {a : Addr} {o o' : HO} (hz : Z a = none) (hp : P a = none) (h : SRel K (upd Z a o) ι P H s σ) : SRel K (upd Z a o') ι P (upd H a o') s σ where
  p := fun b u q => by
    rw [upd_ne (fun z : b = a => by subst z; rw [hp] at q; cases q)]; exact h.p b u q
  z := fun b u q => by
    by_cases hb : b = a
    · subst hb; rw [upd_same] at q ⊢; exact q
    · rw [upd_ne hb] at q ⊢; exact h.z b u (by rw [upd_ne hb]; exact q)
  nd := h.nd
  ιz := fun b hb => by
    have z := h.ιz b hb
    by_cases q : b = a
    · subst q; rw [upd_same] at z; cases z
    · rw [upd_ne q] at z ⊢; exact z
  ιp := h.ιp
  len := h.len
  cells := fun n c e => by
    obtain ⟨b, hb, hc⟩ := h.cells n c e
    refine ⟨b, hb, hc.heap (upd_ne fun q => ?_)⟩
    subst q
    have z := h.ιz b (List.mem_of_getElem? hb)
    rw [upd_same] at z; cases z
  elen := h.elen
  env := fun i sl e => by
    have y := h.env i sl e
    cases sl with
    | no => trivial
    | d d => exact y
    | own c =>
      obtain ⟨b, f1, f2, f3, f4, hc⟩ := y
      have nb : b ≠ a := fun q => by subst q; rw [upd_same] at f3; cases f3
      rw [upd_ne nb] at f3
      exact ⟨b, f1, f2, by rw [upd_ne nb]; exact f3, f4, hc.heap (upd_ne nb)⟩
  sep := h.sep
/-- a comprehension's reading -/
theorem comp_t {K : PySem.W.Frag} {W : WX} {it : S → Res (List D)} {ct : CT} {own : List Nat} {tt : S → Res Bool} {te : S → Res D} {σ : L2.St} {H : Hp} {Q : VK} (hct : ∀ j ∈ ct.slots, j ∈ own) (h : tW K W (cComp it ct own tt te) σ H Q) :
    tLc (tR K (RI K) W it) (ct.tg K) (tR K RB W0 tt) (tR K (RD K) W0 te) own σ H Q := by
  obtain ⟨s, ι, P, Z, hS, hO⟩ := h
  refine tR_bind hS hO fun ds s1 J H1 ι1 P1 x1 S1 r1 o1 => ?_
  have r1 : ItOK K J ds ι1 P1 := r1
  by_cases c : ds.length ≤ sizeLine ∧ (own.all fun i => !(s1.env.getD i .no).isOwn) = true
  case neg => rw [if_neg c] at o1; exact o1.elim
  rw [if_pos c] at o1
  obtain ⟨hlen, hown⟩ := c
  have no : ∀ i ∈ own, (s1.env.getD i .no).isOwn = false := fun i hi => by simpa using List.all_eq_true.mp hown i hi
  intro Da hD
  have zD : Z Da = none := by
    cases q : Z Da with
    | none => rfl
    | some o => rw [S1.z Da o q] at hD; cases hD
  have pD : P1 Da = none := by
    cases q : P1 Da with
    | none => rfl
    | some o => rw [S1.p Da o q] at hD; cases hD
  have ww : L2.wipe (L2.wipe σ own) own = L2.wipe σ own := wipe_wipe fun j hj => hj
  cases q : compL ct own tt te ds s1 with
  | err x t => simp only [q] at o1; exact o1.elim
  | stuck => simp only [q] at o1; exact o1.elim
  | ok full s9 =>
  simp only [q] at o1
  -- the state between two turns: the new list at Da is guarded
  refine ⟨fun i m H => m = ds.length - i ∧ i ≤ ds.length ∧ ∃ (s : S) (ι : List Addr) (P : Hp) (acc : List V) (xs ys : List D), XZ Z ι1 P1 ι P ∧ SRel K (upd Z Da (.lst acc)) ι P H s (L2.wipe σ own) ∧ P Da = none ∧ Reps K ι P xs acc ∧ xs.length ≤ i ∧
      compL ct own tt te (ds.drop i) s = .ok ys s9 ∧ xs ++ ys = full, ?_, ?_⟩
  · refine ⟨_, rfl, Nat.zero_le _, wipeS own s1, ι1, P1, [], [], full, .refl, ?_, pD, Reps.nil, Nat.le_refl _, by rw [List.drop_zero, compL_wipe]; exact q, rfl⟩
    refine ((S1.wipe own).alloc hD).hold upd_same pD (fun hm => ?_) (fun hm => ?_)
    · obtain ⟨o, ho⟩ := S1.ιH hm
      rw [hD] at ho; cases ho
    · obtain ⟨_, _, _, o, ho⟩ := (S1.wipe own).mineP hm
      rw [hD] at ho; cases ho
  · rintro i m H2 ⟨rfl, hi, s2, ι2, P2, acc, xs, ys, x2, S2, hP2, hacc, hxs, hc, hfull⟩
    have zz : (upd Z Da (.lst acc)) Da = some (.lst acc) := upd_same
    have hHD := S2.z Da _ zz
    obtain ⟨r2, r3⟩ := r1 ι2 P2 H2 x2.x S2.p
    by_cases hlt : i < ds.length
    · refine .inr ⟨(r2 i _ (List.getElem?_eq_getElem hlt)).1, _, fun H' q => ⟨ds.length - (i + 1), by omega, rfl, hlt, q⟩, fun y H' hy => ?_⟩
      obtain ⟨P3, dn⟩ := (r2 i _ (List.getElem?_eq_getElem hlt)).2 y H' hy
      obtain ⟨x3, S3, w3⟩ := S2.done dn
      have S3 := S3.wipe own
      rw [ww] at S3
      rw [List.drop_eq_getElem_cons hlt] at hc
      simp only [compL] at hc
      have weak : ∀ {ι' : List Addr} {P' : Hp}, XZ (upd Z Da (.lst acc)) ι2 P2 ι' P' → XZ Z ι1 P1 ι' P' := fun h => x2.trans ⟨h.x, fun b u z => h.z b u (upd_some zD z)⟩
      have pn : ∀ {ι' : List Addr} {P' : Hp}, XZ (upd Z Da (.lst acc)) ι2 P2 ι' P' → P' Da = none := fun h => (h.z Da _ zz).trans hP2
      cases q1 : ct.put ds[i] (wipeS own s2) with
      | none => rw [q1] at hc; cases hc
      | some s3 =>
        rw [q1] at hc
        dsimp only at hc
        refine CT.ok S3 w3 q1 fun σ' S4 hw => ?_
        have hwipe : L2.wipe σ' own = L2.wipe σ own := (hw own hct).trans ww
        refine ⟨hwipe, s3, ι2, P3, _, S4, ?_⟩
        cases q2 : tt s3 with
        | err x t => rw [q2] at hc; cases hc
        | stuck => rw [q2] at hc; cases hc
        | ok b s4 =>
          rw [q2] at hc
          intro b' H4 ι4 P4 x4 S5 hb
          have hb : b' = b := hb
          subst hb
          cases b' with
          | false =>
            rw [if_neg (by decide)]
            have S6 := S5.wipe own
            rw [hwipe] at S6
            exact ⟨wipeS own s4, ι4, P4, acc, xs, ys, weak (x3.trans x4), S6, pn (x3.trans x4), (hacc.mono x3.x).mono x4.x, by omega, by rw [compL_wipe]; exact hc, hfull⟩
          | true =>
            rw [if_pos rfl]
            dsimp only at hc
            refine ⟨s4, ι4, P4, _, S5, ?_⟩
            cases q3 : te s4 with
            | err x t => rw [q3] at hc; cases hc
            | stuck => rw [q3] at hc; cases hc
            | ok yd s5 =>
              rw [q3] at hc
              dsimp only at hc
              intro yv H5 ι5 P5 x5 S6 r5
              have x6 := (x3.trans x4).trans x5
              have ha := S6.z Da _ zz
              refine ⟨acc, ha, by rw [← hacc.length]; omega, ?_⟩
              cases q4 : compL ct own tt te (ds.drop (i + 1)) s5 with
              | err x t => rw [q4] at hc; cases hc
              | stuck => rw [q4] at hc; cases hc
              | ok ys' s9' =>
                rw [q4] at hc
                cases hc
                have S7 := (S6.rehold (o' := .lst (acc ++ [yv])) zD (pn x6)).wipe own
                rw [hwipe] at S7
                exact ⟨wipeS own s5, ι5, P5, acc ++ [yv], xs ++ [yd], ys', weak x6, S7, pn x6, Reps.app (hacc.mono x6.x) (Reps.one r5), by simp; omega, by rw [compL_wipe]; exact q4, by rw [← hfull]; simp⟩
    · have e : i = ds.length := by omega
      subst e
      rw [List.drop_length] at hc
      have hc : (Res.ok [] (wipeS own s2) : Res (List D)) = .ok ys s9 := hc
      cases hc
      rw [List.append_nil] at hfull
      subst hfull
      have S3 := S2.wipe own
      rw [ww] at S3
      refine .inl ⟨r3, ?_⟩
      refine Out.okX o1 x2 (S1.back x2 (S3.unhold zD) no) ⟨Da, rfl, hP2, zD, fun hm => ?_, fun hm => ?_, ⟨acc, hHD, hacc⟩⟩
      · have z := S2.ιz Da hm; rw [zz] at z; cases z
      · obtain ⟨j, cj, e1, e2⟩ := hm
        have hl : s1.env.length = (wipeS own s2).env.length := by rw [S1.elen, S3.elen, L2.wipe_length]
        by_cases hj : j ∈ own
        · rw [backS_in hl j hj] at e1
          have z := no j hj
          rw [List.getD_eq_getElem?_getD, e1] at z
          cases z
        · rw [backS_get j hj] at e1
          obtain ⟨_, z, _⟩ := S3.mineP ⟨j, cj, e1, (L2.wipe_out hj).trans e2⟩
          rw [zz] at z; cases z
section
variable {X : Cx} {W : WX} {elt tg iter : Expr} {ifs : List Expr} {scope : Scope} {own : List (Str × Nat)} {pos spos py : Pos} {it : S → Res (List D)} {ct : CT} {tt : S → Res Bool} {te : S → Res D}
theorem jts_nil : PTs X [] (tR X.K RB W0 cYes) := ⟨fun pins s σ H Q I h => pts_nil.run pins s σ H Q I (by
  obtain ⟨s, ι, P, Z, hS, hO⟩ := h
  exact Out.ok hO hS rfl)⟩
theorem jts_one {c : Expr} (h : JT X W0 c tt) : PTs X [c] (tR X.K RB W0 tt) := pts_one h
theorem jg_ct {i : Nat} {e : Expr} (h : PG X e (gName i)) : PG X e ((CT.n i).tg X.K) := h
theorem jg_ctt {is : List Nat} {e : Expr} (h : PG X e (gTup X.K is.length (gIs is))) : PG X e ((CT.t is).tg X.K) := h
theorem jw_comp (hc : X.calm = true) (hN : X.N.Nodup) (hi : JI X W tg iter it) (ok : BlkOk X.N X.env.scope scope own)
    (hg : ∀ (s : Shared) (H : Hp) (C : Addr) (cl : List (Str × Addr)) (fp : List Addr), PG (X.blk s H scope (compEnvC scope cl C X.env) fp) tg (ct.tg X.K))
    (ht : ∀ (s : Shared) (H : Hp) (C : Addr) (cl : List (Str × Addr)) (fp : List Addr), PTs (X.blk s H scope (compEnvC scope cl C X.env) fp) ifs (tR X.K RB W0 tt))
    (he : ∀ (s : Shared) (H : Hp) (C : Addr) (cl : List (Str × Addr)) (fp : List Addr), JD (X.blk s H scope (compEnvC scope cl C X.env) fp) W0 elt te)
    (hct : ∀ j ∈ ct.slots, j ∈ own.map (·.2)) (hs : ∀ x, foldedSetIterable iter X.env x = pure x := by intro _; rfl) :
    JW X W (.ListComp elt [⟨tg, iter, ifs, 0⟩] scope pos) (cComp it ct (own.map (·.2)) tt te) :=
  pe_weak (pe_lc hc hN hi ok hg ht he hs) fun σ H Q h => comp_t hct h
theorem js_setComp {i : Nat} {y : Str} (hc : X.calm = true) (hN : X.N.Nodup) (hy : X.N[i]? = some y) (hyl : X.env.scope.names.lookup y = some .local)
    (hsw : swapsWith (.ListComp elt [⟨tg, iter, ifs, 0⟩] scope pos) (some (.Name y py)) spos.line X.env = pure true) (hi : JI X W tg iter it) (ok : BlkOk X.N X.env.scope scope own)
    (hg : ∀ (s : Shared) (H : Hp) (C : Addr) (cl : List (Str × Addr)) (fp : List Addr), PG (X.blk s H scope (compEnvC scope cl C X.env) fp) tg (ct.tg X.K))
    (ht : ∀ (s : Shared) (H : Hp) (C : Addr) (cl : List (Str × Addr)) (fp : List Addr), PTs (X.blk s H scope (compEnvC scope cl C X.env) fp) ifs (tR X.K RB W0 tt))
    (he : ∀ (s : Shared) (H : Hp) (C : Addr) (cl : List (Str × Addr)) (fp : List Addr), JD (X.blk s H scope (compEnvC scope cl C X.env) fp) W0 elt te)
    (hct : ∀ j ∈ ct.slots, j ∈ own.map (·.2)) (hs : ∀ x, foldedSetIterable iter X.env x = pure x := by intro _; rfl) :
    JS X W (.Assign [.Name y py] (.ListComp elt [⟨tg, iter, ifs, 0⟩] scope pos) spos) (sSet i (cComp it ct (own.map (·.2)) tt te)) :=
  js_setG (ps_weak (ps_setLc hc hN hy hyl hsw hi ok hg ht he hs) fun A σ H h => comp_t hct h)
end
end PL
end

section
set_option Elab.async false
set_option linter.all false
set_option maxRecDepth 100000
set_option maxHeartbeats 2000000
namespace PL
open PySem PySem.Spec PyProof.Rows L2

/-! ### operators on trees -/
def seqOf : D → Option (List D)
  | .lst xs => some xs
  | .tup xs => some xs
  | .kt xs => some xs
  | .scr ns => some (ns.map D.int)
  | _ => none
def tupOf : D → Option (List D)
  | .tup xs => some xs
  | .kt xs => some xs
  | _ => none
section
variable {K : PySem.W.Frag} {ι : List Addr} {P H : Hp} {d : D} {v : V}
theorem v_int {i : Int} (r : View K ι P H (.int i) v) : v = .int i := by have r : Rep K ι P (.int i) v := r; unfold Rep at r; exact r
theorem v_bl {i : Bool} (r : View K ι P H (.bl i) v) : v = .bl i := by have r : Rep K ι P (.bl i) v := r; unfold Rep at r; exact r
theorem v_str {i : Str} (r : View K ι P H (.str i) v) : v = .str i := by have r : Rep K ι P (.str i) v := r; unfold Rep at r; exact r
theorem v_non (r : View K ι P H .non v) : v = .non := by have r : Rep K ι P .non v := r; unfold Rep at r; exact r
theorem v_lst {xs : List D} (r : View K ι P H (.lst xs) v) : ∃ a vs, v = .ref a ∧ H a = some (.lst vs) ∧ Reps K ι P xs vs := r
theorem v_tup {xs : List D} (hp : ∀ a o, P a = some o → H a = some o) (e : tupOf d = some xs) (r : View K ι P H d v) : ∃ a vs, v = .ref a ∧ SqT K H a vs ∧ Reps K ι P xs vs := by
  cases d with
  | tup ys =>
    cases e
    have r : Rep K ι P (.tup xs) v := r
    unfold Rep at r
    obtain ⟨a, vs, e, h1, h2⟩ := r
    exact ⟨a, vs, e, SqT.of (hp _ _ h1), h2⟩
  | kt ys =>
    cases e
    have r : Rep K ι P (.kt xs) v := r
    unfold Rep at r
    obtain ⟨a, vs, e, h1, h2⟩ := r
    exact ⟨a, vs, e, SqT.mono hp h1, h2⟩
  | _ => cases e
theorem v_seq {xs : List D} (hp : ∀ a o, P a = some o → H a = some o) (e : seqOf d = some xs) (r : View K ι P H d v) : ∃ a vs, v = .ref a ∧ (SqL K H a vs ∨ SqT K H a vs) ∧ Reps K ι P xs vs := by
  cases d with
  | lst ys =>
    cases e
    obtain ⟨a, vs, e, h1, h2⟩ := v_lst r
    exact ⟨a, vs, e, .inl (SqL.of h1), h2⟩
  | tup ys =>
    obtain ⟨a, vs, e1, h1, h2⟩ := v_tup (d := .tup ys) (xs := xs) hp e r
    exact ⟨a, vs, e1, .inr h1, h2⟩
  | kt ys =>
    obtain ⟨a, vs, e1, h1, h2⟩ := v_tup (d := .kt ys) (xs := xs) hp e r
    exact ⟨a, vs, e1, .inr h1, h2⟩
  | scr ns =>
    cases e
    have r : Rep K ι P (.scr ns) v := r
    unfold Rep at r
    obtain ⟨a, e, h1⟩ := r
    exact ⟨a, _, e, .inl (SqL.mono hp h1), Reps.ints ns⟩
  | _ => cases e
end
/-- an int operator -/
def gI2 (C : Int → Int → Bool) (f : Int → Int → Int) : D → D → Option Wv
  | .int i, .int j => if C i j = true then some (.d (.int (f i j))) else none
  | _, _ => none
def gB2 (f : Int → Int → Bool) : D → D → Option Wv
  | .int i, .int j => some (.d (.bl (f i j)))
  | _, _ => none
def CMulB (i j : Int) : Bool := (decide (-(2 ^ 64) < i) && decide (i < 2 ^ 64)) || (decide (-(2 ^ 64) < j) && decide (j < 2 ^ 64))
def CDivB (i j : Int) : Bool := decide (0 < j) && decide (j < 1073741824)
def CModB (i j : Int) : Bool := decide (0 < j)
def CPowB (i j : Int) : Bool := decide (0 ≤ j) && decide (j ≤ 1000000) && decide (i.natAbs < 2 ^ 64)
def CYes (_ _ : Int) : Bool := true
section
variable {K : PySem.W.Frag}
theorem good_I2 {C : Int → Int → Bool} {C' : Int → Int → Prop} {f : Int → Int → Int} {g : Int → Int → V} (hg : ∀ i j, g i j = .int (f i j)) (hC : ∀ i j, C i j = true → C' i j) : Good2 K (rI C' g) (gI2 C f) := fun {ι P H d1 d2 w v1 v2 Q} hp e r1 r2 k => by
  match d1, d2, e with
  | .int i, .int j, e =>
    simp only [gI2] at e
    by_cases c : C i j = true
    case neg => rw [if_neg c] at e; cases e
    rw [if_pos c] at e
    cases e
    refine ⟨i, j, v_int r1, v_int r2, hC i j c, ?_⟩
    rw [hg]
    exact k _ _ _ (Done.same hp rep_int)
theorem good_I0 {f : Int → Int → Int} {g : Int → Int → V} (hg : ∀ i j, g i j = .int (f i j)) : Good2 K (rI0 g) (gI2 CYes f) := fun {ι P H d1 d2 w v1 v2 Q} hp e r1 r2 k => by
  match d1, d2, e with
  | .int i, .int j, e =>
    cases e
    refine ⟨i, j, v_int r1, v_int r2, ?_⟩
    rw [hg]
    exact k _ _ _ (Done.same hp rep_int)
theorem good_B0 {f : Int → Int → Bool} {g : Int → Int → V} (hg : ∀ i j, g i j = .bl (f i j)) : Good2 K (rI0 g) (gB2 f) := fun {ι P H d1 d2 w v1 v2 Q} hp e r1 r2 k => by
  match d1, d2, e with
  | .int i, .int j, e =>
    cases e
    refine ⟨i, j, v_int r1, v_int r2, ?_⟩
    rw [hg]
    exact k _ _ _ (Done.same hp rep_bl)
/-- a + b: ints, texts, lists, tuples -/
def gAdd : D → D → Option Wv
  | .int i, .int j => some (.d (.int (i + j)))
  | .str x, .str y => if x.length + y.length ≤ sizeLine then some (.d (.str (x ++ y))) else none
  | .lst xs, .lst ys => if xs.length + ys.length ≤ sizeLine then some (.nw (.lst (xs ++ ys))) else none
  | x, y => (tupOf x).bind fun xs => (tupOf y).bind fun ys => if xs.length + ys.length ≤ sizeLine then some (.d (if xs.isEmpty then y else if ys.isEmpty then x else .tup (xs ++ ys))) else none
theorem gAdd_cases {d1 d2 : D} {w : Wv} (e : gAdd d1 d2 = some w) : (∃ i j, d1 = .int i ∧ d2 = .int j ∧ w = .d (.int (i + j))) ∨ (∃ x y, d1 = .str x ∧ d2 = .str y ∧ x.length + y.length ≤ sizeLine ∧ w = .d (.str (x ++ y))) ∨
    (∃ xs ys, d1 = .lst xs ∧ d2 = .lst ys ∧ xs.length + ys.length ≤ sizeLine ∧ w = .nw (.lst (xs ++ ys))) ∨ ∃ xs ys, tupOf d1 = some xs ∧ tupOf d2 = some ys ∧ xs.length + ys.length ≤ sizeLine ∧ w = .d (if xs.isEmpty then d2 else if ys.isEmpty then d1 else .tup (xs ++ ys)) := by
  unfold gAdd at e
  split at e
  · cases e; exact .inl ⟨_, _, rfl, rfl, rfl⟩
  · split at e
    · cases e; exact .inr (.inl ⟨_, _, rfl, rfl, by assumption, rfl⟩)
    · cases e
  · split at e
    · cases e; exact .inr (.inr (.inl ⟨_, _, rfl, rfl, by assumption, rfl⟩))
    · cases e
  · obtain ⟨xs, e1, e⟩ := Option.bind_eq_some_iff.mp e
    obtain ⟨ys, e2, e⟩ := Option.bind_eq_some_iff.mp e
    split at e
    · cases e; exact .inr (.inr (.inr ⟨xs, ys, e1, e2, by assumption, rfl⟩))
    · cases e
def rAdd (K : PySem.W.Frag) : R2 := fun x y H Q => ((∃ i j, x = .int i ∧ y = .int j ∧ Q (.int (i + j)) H) ∨ ∃ i j, x = .str i ∧ y = .str j ∧ i.length + j.length ≤ sizeLine ∧ Q (.str (i ++ j)) H) ∨ rCat x y H Q ∨ rCatA K x y H Q
theorem op_addA {X : Cx} : OpR X (binaryOp .Add) (rAdd X.K) := (op_add.or op_add_str).or (op_cat.or op_catA)
theorem good_add : Good2 K (rAdd K) gAdd := fun {ι P H d1 d2 w v1 v2 Q} hp e r1 r2 k => by
  rcases gAdd_cases e with ⟨i, j, rfl, rfl, rfl⟩ | ⟨x, y, rfl, rfl, hl, rfl⟩ | ⟨xs, ys, rfl, rfl, hl, rfl⟩ | ⟨xs, ys, e1, e2, hl, rfl⟩
  · exact .inl (.inl ⟨i, j, v_int r1, v_int r2, k _ _ _ (Done.same hp rep_int)⟩)
  · exact .inl (.inr ⟨x, y, v_str r1, v_str r2, hl, k _ _ _ (Done.same hp rep_str)⟩)
  · obtain ⟨a, vs, rfl, h1, h2⟩ := v_lst r1
    obtain ⟨b, us, rfl, h3, h4⟩ := v_lst r2
    exact .inr (.inl ⟨a, b, vs, us, rfl, rfl, h1, h3, by rw [← h2.length, ← h4.length]; exact hl, fun p hn => k _ _ _ (Done.newC hp hn ⟨_, upd_same, Reps.app h2 h4⟩)⟩)
  · obtain ⟨a, vs, rfl, h1, h2⟩ := v_tup hp e1 r1
    obtain ⟨b, us, rfl, h3, h4⟩ := v_tup hp e2 r2
    have back : ∀ {d : D} {zs : List D} {v : V}, tupOf d = some zs → View K ι P H d v → Rep K ι P d v := fun {d zs v} e r => by cases d <;> first | cases e; done | exact r
    have n1 : vs = [] ↔ xs.isEmpty = true := by rw [List.isEmpty_iff, ← List.length_eq_zero_iff, ← List.length_eq_zero_iff, h2.length]
    have n2 : us = [] ↔ ys.isEmpty = true := by rw [List.isEmpty_iff, ← List.length_eq_zero_iff, ← List.length_eq_zero_iff, h4.length]
    refine .inr (.inr ⟨a, b, vs, us, rfl, rfl, h1, h3, by rw [← h2.length, ← h4.length]; exact hl, fun q => ?_, fun q q2 => ?_, fun q q2 p hn => ?_⟩)
    · rw [if_pos (n1.mp q)] at k
      exact k _ _ _ (Done.same hp (back e2 r2))
    · rw [if_neg (fun z => q (n1.mpr z)), if_pos (n2.mp q2)] at k
      exact k _ _ _ (Done.same hp (back e1 r1))
    · rw [if_neg (fun z => q (n1.mpr z)), if_neg (fun z => q2 (n2.mpr z))] at k
      have hp' : ∀ a o, P a = some o → upd P p (.tup (vs ++ us)) a = some o := fun a o e => by rw [upd_ne (ne_of_none (hp a o e) hn)]; exact e
      have x : Ext ι P ι (upd P p (.tup (vs ++ us))) := ⟨⟨[], by simp⟩, hp'⟩
      refine k _ _ _ (Done.newD hp hn ?_)
      unfold Rep
      exact ⟨p, _, rfl, upd_same, (Reps.app h2 h4).mono x⟩
/-- an index -/
def gIxS : D → D → Option Wv
  | .str z, .int i => if z.length ≤ sizeLine then (atI z.cps.toList i).map fun c => .d (.str ⟨#[c]⟩) else none
  | x, .int i => (seqOf x).bind fun xs => (atI xs i).map Wv.d
  | _, _ => none
def findK {κ : Type} [DecidableEq κ] (k : κ) (ks : List κ) (vs : List D) : Option D := ((ks.zip vs).find? fun kv => decide (kv.1 = k)).map (·.2)
def gIxD : D → D → Option Wv
  | .dK ks vs, i => (keyOf i).bind fun k => (findK k ks vs).map Wv.d
  | .dT ks vs, i => (tkeyOf i).bind fun k => (findK k ks vs).map Wv.d
  | _, _ => none
def gIx (x i : D) : Option Wv := match x with
  | .dK _ _ => gIxD x i
  | .dT _ _ => gIxD x i
  | _ => gIxS x i
theorem atI_rep {ι : List Addr} {P : Hp} {xs : List D} {vs : List V} {i : Int} {d : D} (r : Reps K ι P xs vs) (e : atI xs i = some d) : ∃ v, atI vs i = some v ∧ Rep K ι P d v := by
  unfold atI at e ⊢
  rw [← r.length]
  obtain ⟨j, e1, e2⟩ := Option.bind_eq_some_iff.mp e
  obtain ⟨v, hv, rv⟩ := r.get e2
  exact ⟨v, by rw [e1]; exact hv, rv⟩
theorem good_ixS : Good2 K (rIx K) gIxS := fun {ι P H d1 d2 w v1 v2 Q} hp e r1 r2 k => by
  have seq : ∀ {xs : List D} {i : Int}, seqOf d1 = some xs → d2 = .int i → (atI xs i).map Wv.d = some w → rIx K v1 v2 H Q := fun {xs i} e1 e2 e3 => by
    subst e2
    obtain ⟨d, e4, rfl⟩ := Option.map_eq_some_iff.mp e3
    obtain ⟨a, vs, rfl, h1, h2⟩ := v_seq hp e1 r1
    obtain ⟨v, h3, h4⟩ := atI_rep h2 e4
    rcases h1 with h1 | h1
    · exact .inl ⟨a, vs, i, v, rfl, v_int r2, h1, h3, k _ _ _ (Done.same hp h4)⟩
    · exact .inr (.inl ⟨a, vs, i, v, rfl, v_int r2, h1, h3, k _ _ _ (Done.same hp h4)⟩)
  cases d2 with
  | int i =>
    cases d1 with
    | str z =>
      simp only [gIxS] at e
      by_cases c : z.length ≤ sizeLine
      case neg => rw [if_neg c] at e; cases e
      rw [if_pos c] at e
      obtain ⟨cc, e4, rfl⟩ := Option.map_eq_some_iff.mp e
      exact .inr (.inr ⟨z, i, cc, v_str r1, v_int r2, c, e4, k _ _ _ (Done.same hp rep_str)⟩)
    | lst xs => exact seq rfl rfl e
    | tup xs => exact seq rfl rfl e
    | kt xs => exact seq rfl rfl e
    | scr ns => exact seq rfl rfl e
    | _ => cases e
  | _ => cases d1 <;> cases e
theorem find_rep {κ : Type} [DecidableEq κ] {ι : List Addr} {P : Hp} {k : κ} {d : D} : ∀ {ks : List κ} {xs : List D} {vs : List V}, Reps K ι P xs vs → findK k ks xs = some d → ∃ v, L2.valV (ks.zip vs) k = some v ∧ Rep K ι P d v
  | [], xs, vs, r, e => by simp [findK] at e
  | j :: ks, [], vs, r, e => by simp [findK] at e
  | j :: ks, x :: xs, vs, r, e => by
    obtain ⟨v, t, rfl, h1, h2⟩ := r.uncons
    unfold findK at e
    rw [List.zip_cons_cons, List.find?_cons] at e
    rw [List.zip_cons_cons]
    by_cases q : j = k
    · rw [decide_eq_true q] at e
      cases e
      exact ⟨v, L2.valV_pos q, h1⟩
    · rw [decide_eq_false q] at e
      obtain ⟨u, h3, h4⟩ := find_rep (ks := ks) h2 e
      exact ⟨u, by rw [L2.valV_neg q]; exact h3, h4⟩
theorem find_none {κ : Type} [DecidableEq κ] {ι : List Addr} {P : Hp} {k : κ} : ∀ {ks : List κ} {xs : List D} {vs : List V}, Reps K ι P xs vs → findK k ks xs = none → L2.valV (ks.zip vs) k = none
  | [], xs, vs, r, e => by simp [L2.valV]
  | j :: ks, [], vs, r, e => by unfold Reps at r; subst r; simp [L2.valV]
  | j :: ks, x :: xs, vs, r, e => by
    obtain ⟨v, t, rfl, h1, h2⟩ := r.uncons
    unfold findK at e
    rw [List.zip_cons_cons, List.find?_cons] at e
    rw [List.zip_cons_cons]
    by_cases q : j = k
    · rw [decide_eq_true q] at e
      cases e
    · rw [decide_eq_false q] at e
      rw [L2.valV_neg q]
      exact find_none (ks := ks) h2 e
def OptRep (K : PySem.W.Frag) (ι : List Addr) (P : Hp) : Option D → Option V → Prop
  | some d, some v => Rep K ι P d v
  | none, none => True
  | _, _ => False
/-- what a dict holds at a key, by trees -/
def dictAt : D → D → Option (Option D)
  | .dK ks vs, i => (keyOf i).map fun k => findK k ks vs
  | .dT ks vs, i => (tkeyOf i).map fun k => findK k ks vs
  | _, _ => none
theorem dict_get {ι : List Addr} {P H : Hp} {d i : D} {o : Option D} {v vi : V} (hp : ∀ a o, P a = some o → H a = some o) (e : dictAt d i = some o) (r : View K ι P H d v) (ri : View K ι P H i vi) :
    ∃ a ov, v = .ref a ∧ DGet H a vi ov ∧ OptRep K ι P o ov := by
  cases d with
  | dK ks vs =>
    obtain ⟨k, e1, eo⟩ := Option.map_eq_some_iff.mp (show (keyOf i).map (fun k => findK k ks vs) = some o by cases i <;> exact e)
    obtain ⟨a, us, rfl, h1, hl, h2⟩ := r
    have ri' : Rep K ι P i vi := by cases i <;> first | exact ri | cases e1
    have hv := keyOf_v e1 ri'
    subst hv
    cases q : findK k ks vs with
    | some d' =>
      rw [q] at eo; subst eo
      obtain ⟨u, h3, h4⟩ := find_rep h2 q
      exact ⟨a, some u, rfl, .inl ⟨_, k, h1, rfl, h3.symm⟩, h4⟩
    | none =>
      rw [q] at eo; subst eo
      exact ⟨a, none, rfl, .inl ⟨_, k, h1, rfl, (find_none h2 q).symm⟩, trivial⟩
  | dT ks vs =>
    obtain ⟨k, e1, eo⟩ := Option.map_eq_some_iff.mp (show (tkeyOf i).map (fun k => findK k ks vs) = some o by cases i <;> exact e)
    obtain ⟨a, us, rfl, h1, hl, h2⟩ := r
    cases i with
    | tup ds =>
      have ri' : Rep K ι P (.tup ds) vi := ri
      unfold Rep at ri'
      obtain ⟨b, ws, rfl, ht, hr⟩ := ri'
      have hws := keysOf_v (show keysOf ds = some k from e1) hr
      subst hws
      cases q : findK k ks vs with
      | some d' =>
        rw [q] at eo; subst eo
        obtain ⟨u, h3, h4⟩ := find_rep h2 q
        exact ⟨a, some u, rfl, .inr ⟨_, k, b, h1, rfl, hp _ _ ht, h3.symm⟩, h4⟩
      | none =>
        rw [q] at eo; subst eo
        exact ⟨a, none, rfl, .inr ⟨_, k, b, h1, rfl, hp _ _ ht, (find_none h2 q).symm⟩, trivial⟩
    | _ => cases e1
  | _ => cases i <;> cases e
def rDG : R2 := fun x y H Q => ∃ a v, x = .ref a ∧ DGet H a y (some v) ∧ Q v H
theorem good_ixD : Good2 K rDG gIxD := fun {ι P H d1 d2 w v1 v2 Q} hp e r1 r2 k => by
  have : ∃ d, dictAt d1 d2 = some (some d) ∧ w = .d d := by
    cases d1 with
    | dK ks vs =>
      obtain ⟨key, e1, e2⟩ := Option.bind_eq_some_iff.mp (show ((keyOf d2).bind fun k => (findK k ks vs).map Wv.d) = some w by cases d2 <;> exact e)
      obtain ⟨d, e3, rfl⟩ := Option.map_eq_some_iff.mp e2
      refine ⟨d, ?_, rfl⟩
      show dictAt (.dK ks vs) d2 = _
      unfold dictAt
      cases d2 <;> simp_all
    | dT ks vs =>
      obtain ⟨key, e1, e2⟩ := Option.bind_eq_some_iff.mp (show ((tkeyOf d2).bind fun k => (findK k ks vs).map Wv.d) = some w by cases d2 <;> exact e)
      obtain ⟨d, e3, rfl⟩ := Option.map_eq_some_iff.mp e2
      refine ⟨d, ?_, rfl⟩
      show dictAt (.dT ks vs) d2 = _
      unfold dictAt
      cases d2 <;> simp_all
    | _ => cases d2 <;> cases e
  obtain ⟨d, e1, rfl⟩ := this
  obtain ⟨a, ov, rfl, h1, h2⟩ := dict_get hp e1 r1 r2
  cases ov with
  | none => exact h2.elim
  | some v => exact ⟨a, v, rfl, h1, k _ _ _ (Done.same hp h2)⟩
end
/-- an operation by kinds: one of two rules -/
theorem cOp2_split {K : PySem.W.Frag} {W : WX} {g g1 g2 : D → D → Option Wv} {o1 o2 : Opd} (hg : ∀ d1 d2 w, g d1 d2 = some w → g1 d1 d2 = some w ∨ g2 d1 d2 = some w) {σ : L2.St} {H : Hp} {Q : VK} (h : tW K W (cOp2 g o1 o2) σ H Q) :
    tW K W (cOp2 g1 o1 o2) σ H Q ∨ tW K W (cOp2 g2 o1 o2) σ H Q := by
  obtain ⟨s, ι, P, Z, hS, hO⟩ := h
  unfold cOp2 at hO
  cases q1 : o1.run s with
  | err x s1 => rw [q1] at hO; exact .inl ⟨s, ι, P, Z, hS, by unfold cOp2; rw [q1]; exact hO⟩
  | stuck => rw [q1] at hO; exact hO.elim
  | ok x1 s1 =>
    rw [q1] at hO
    simp only [Res.bind] at hO
    cases q2 : o2.run s1 with
    | err x s2 => rw [q2] at hO; exact .inl ⟨s, ι, P, Z, hS, by unfold cOp2; rw [q1]; simp only [Res.bind]; rw [q2]; exact hO⟩
    | stuck => rw [q2] at hO; exact hO.elim
    | ok x2 s2 =>
      rw [q2] at hO
      simp only at hO
      cases q3 : o1.get x1 s2 with
      | none => rw [q3] at hO; exact hO.elim
      | some d1 =>
        cases q4 : o2.get x2 s2 with
        | none => rw [q3, q4] at hO; exact hO.elim
        | some d2 =>
          rw [q3, q4] at hO
          simp only at hO
          cases q5 : g d1 d2 with
          | none => rw [q5] at hO; exact hO.elim
          | some w =>
            rw [q5] at hO
            rcases hg d1 d2 w q5 with h | h
            · exact .inl ⟨s, ι, P, Z, hS, by unfold cOp2; rw [q1]; simp only [Res.bind]; rw [q2]; simp only; rw [q3, q4]; simp only; rw [h]; exact hO⟩
            · exact .inr ⟨s, ι, P, Z, hS, by unfold cOp2; rw [q1]; simp only [Res.bind]; rw [q2]; simp only; rw [q3, q4]; simp only; rw [h]; exact hO⟩
theorem pe_or' {X : Cx} {e : Expr} {t t' : TE} (h : PE X e t) (h' : PE X e t') : PE X e (fun σ H Q => t σ H Q ∨ t' σ H Q) := ⟨fun pins s σ H Q I q => by
  rcases q with q | q
  · exact h.run pins s σ H Q I q
  · exact h'.run pins s σ H Q I q⟩
section
variable {X : Cx} {W : WX} {a b e : Expr} {pos : Pos} {o1 o2 : Opd}
theorem jw_ix (hu : X.A.units + 1 < cLine) (ha : JO X W a o1) (hb : JO X W b o2) (hs : PlainIx b := by exact fun _ _ => rfl) : JW X W (.Subscript a b pos) (cOp2 gIx o1 o2) :=
  pe_weak (pe_or' (pe_ix ix_seq ha hb hs) (pe_dget hu ha hb hs)) fun σ H Q h => by
    rcases cOp2_split (g1 := gIxS) (g2 := gIxD) (fun d1 d2 w e => by cases d1 <;> first | exact .inl e | exact .inr e) h with h | h
    · exact .inl (op2_t good_ixS h)
    · exact .inr (op2_t good_ixD h)
theorem jw_add (ha : JO X W a o1) (hb : JO X W b o2) : JW X W (.BinOp a .Add b pos) (cOp2 gAdd o1 o2) := jw_bin op_addA good_add ha hb
theorem jw_sub (ha : JO X W a o1) (hb : JO X W b o2) : JW X W (.BinOp a .Sub b pos) (cOp2 (gI2 CYes fun i j => i - j) o1 o2) := jw_bin op_sub (good_I0 fun _ _ => rfl) ha hb
theorem jw_mod (ha : JO X W a o1) (hb : JO X W b o2) : JW X W (.BinOp a .Mod b pos) (cOp2 (gI2 CModB fun i j => i % j) o1 o2) := jw_bin op_mod (good_I2 (fun _ _ => rfl) fun i j h => of_decide_eq_true h) ha hb
theorem jw_fdiv (ha : JO X W a o1) (hb : JO X W b o2) : JW X W (.BinOp a .FloorDiv b pos) (cOp2 (gI2 CDivB fun i j => i / j) o1 o2) := jw_bin op_fdiv (good_I2 (fun _ _ => rfl) fun i j h => by
  obtain ⟨h1, h2⟩ := Bool.and_eq_true_iff.mp h
  exact ⟨of_decide_eq_true h1, of_decide_eq_true h2⟩) ha hb
theorem jw_pow (ha : JO X W a o1) (hb : JO X W b o2) : JW X W (.BinOp a .Pow b pos) (cOp2 (gI2 CPowB fun i j => i ^ j.toNat) o1 o2) := jw_bin op_pow (good_I2 (fun _ _ => rfl) fun i j h => by
  obtain ⟨h1, h2⟩ := Bool.and_eq_true_iff.mp h
  obtain ⟨h3, h4⟩ := Bool.and_eq_true_iff.mp h1
  exact ⟨of_decide_eq_true h3, of_decide_eq_true h4, of_decide_eq_true h2⟩) ha hb
theorem cMul_ok {i j : Int} (h : CMulB i j = true) : CMul i j := by
  rcases Bool.or_eq_true_iff.mp h with h | h
  · obtain ⟨h1, h2⟩ := Bool.and_eq_true_iff.mp h
    exact .inl ⟨of_decide_eq_true h1, of_decide_eq_true h2⟩
  · obtain ⟨h1, h2⟩ := Bool.and_eq_true_iff.mp h
    exact .inr ⟨of_decide_eq_true h1, of_decide_eq_true h2⟩
def gNeg : D → Option Wv
  | .int i => some (.d (.int (-i)))
  | _ => none
theorem good_neg {K : PySem.W.Frag} : Good1 K (rU fun i => .int (-i)) gNeg := fun {ι P H d w v Q} hp e r k => by
  match d, e with
  | .int i, e => cases e; exact ⟨i, v_int r, k _ _ _ (Done.same hp rep_int)⟩
theorem jw_neg (ha : JO X W a o1) : JW X W (.UnaryOp .USub a pos) (cOp1 gNeg o1) := jw_un un_neg good_neg ha
end
end PL
end

section
set_option Elab.async false
set_option linter.all false
set_option maxRecDepth 100000
set_option maxHeartbeats 2000000
namespace PL
open PySem PySem.Spec PyProof.Rows L2
theorem tuple_mul1 (l : Addr) (items : Array Value) (n : Nat) (dd : Option Addr) (sl : Array (Option Value)) (u : Tok) (c1 : (items.isEmpty || (1 : Int) == 1) = true) :
    Meets (Builtin.«tuple.__mul__» ⟨[.ref l, .int 1 u], []⟩) (fun _ R s => s.heap.get? l = some { cls := .type "tuple", dict := dd, data := .seq items n, slots := sl } ∧
      R (.ok (.ret (Value.ref l))) s) :=
  .of_wp fun prog w A R s h => by
    obtain ⟨hp, g, d, tk, os⟩ := s
    obtain ⟨hl, h⟩ := h
    have f1 := AutoSeq1.idx_int
    wp_walk using wpAny_loadPart' hl
    exact ⟨_, rfl, h⟩
/-- t * 1 -/
def rRepT1 (K : PySem.W.Frag) : R2 := fun x y H Q => ∃ l xs, x = .ref l ∧ y = .int 1 ∧ SqT K H l xs ∧ Q (.ref l) H
theorem op_repT1 {X : Cx} : OpR X (binaryOp .Mult) (rRepT1 X.K) := fun pins s σ H x y v u Q I rx ry h => by
  obtain ⟨l, xs, rfl, rfl, hT, q⟩ := h
  cases rx
  obtain ⟨t, rfl⟩ := ry
  obtain ⟨its, r, ⟨⟨cls, dd, data, sl⟩, ho, hc, n, hd⟩, hs⟩ := I.tuple hT
  simp only at hc hd
  subst hc hd
  exact wpAny_binaryOp_repeat_ref (T := "tuple") (U := "int") (by decide) ⟨_, ho, rfl⟩ (fun s' => typeIs_int s' 1 t) noFill_tuple_mul F.fills_int_mul F.slot_int_rmul repeat_tuple F.slot_int_index.lookup
    (call_meets F.slot_int_rmul (typeIs_int s 1 t) F.entry_int_rmul (F.args_int_rmul_2 _ _) (int_rmul_tuple 1 t l its.toArray n dd sl)
      ⟨ho, rfl, ⟨_, ho, rfl⟩, call_meets F.slot_tuple_mul ⟨_, ho, rfl⟩ F.entry_tuple_mul (F.args_tuple_mul_2 _ _) (tuple_mul1 l its.toArray n dd sl t (by rw [Bool.or_eq_true]; exact .inr rfl)) ⟨ho, ⟨.ref l, H, I, rfl, q⟩⟩⟩)

/-! ### a * b -/
def gMul : D → D → Option Wv
  | .int i, .int j => if CMulB i j = true then some (.d (.int (i * j))) else none
  | .str x, .int n => if x.length ≤ 4096 ∧ -(2 ^ 63) ≤ n ∧ n ≤ 4096 then some (.d (.str (Txt.mul x n))) else none
  | .lst xs, .int n => if (-(2 ^ 63) ≤ n ∧ n < 2 ^ 63) ∧ xs.length * n.toNat ≤ sizeLine then some (.nw (.lst (List.replicate n.toNat xs).flatten)) else none
  | x, .int n => (tupOf x).bind fun xs => if n = 1 then some (.d x) else if (xs.isEmpty = false ∧ 2 ≤ n ∧ n ≤ 1000) ∧ xs.length ≤ 1000 then some (.d (.tup (List.replicate n.toNat xs).flatten)) else none
  | _, _ => none
theorem op_mul_str {X : Cx} : OpR X (binaryOp .Mult) (fun x y H Q => ∃ z n, x = .str z ∧ y = .int n ∧ (z.length ≤ 4096 ∧ -(2 ^ 63) ≤ n ∧ n ≤ 4096) ∧ Q (.str (Txt.mul z n)) H) := fun pins s σ H x y v u Q I rx ry h => by
  obtain ⟨z, n, rfl, rfl, ⟨h1, h2, h3⟩, q⟩ := h
  obtain ⟨t, rfl⟩ := rx
  obtain ⟨t', rfl⟩ := ry
  exact SB.mul (mulOk_of 4096 4096 h1 (by omega) h2 (by decide) (by decide)) fun t2 k => ⟨.str _, H, I.tok k, ⟨t2, rfl⟩, q⟩
def rMul (K : PySem.W.Frag) : R2 := fun x y H Q => ((∃ i j, x = .int i ∧ y = .int j ∧ CMul i j ∧ Q (.int (i * j)) H) ∨ ∃ z n, x = .str z ∧ y = .int n ∧ (z.length ≤ 4096 ∧ -(2 ^ 63) ≤ n ∧ n ≤ 4096) ∧ Q (.str (Txt.mul z n)) H) ∨ (rRep x y H Q ∨ rRepT K x y H Q) ∨ rRepT1 K x y H Q
theorem op_mulA {X : Cx} : OpR X (binaryOp .Mult) (rMul X.K) := (op_mul.or op_mul_str).or ((op_rep.or op_repT).or op_repT1)
theorem good_mul {K : PySem.W.Frag} : Good2 K (rMul K) gMul := fun {ι P H d1 d2 w v1 v2 Q} hp e r1 r2 k => by
  have tup : ∀ {xs : List D} {n : Int}, tupOf d1 = some xs → d2 = .int n → (if n = 1 then some (Wv.d d1) else if (xs.isEmpty = false ∧ 2 ≤ n ∧ n ≤ 1000) ∧ xs.length ≤ 1000 then some (Wv.d (.tup (List.replicate n.toNat xs).flatten)) else none) = some w → rMul K v1 v2 H Q := fun {xs n} e1 e2 q => by
    subst e2
    by_cases h1n : n = 1
    · subst h1n
      rw [if_pos rfl] at q
      cases q
      obtain ⟨a, vs, rfl, h1, h2⟩ := v_tup hp e1 r1
      exact .inr (.inr ⟨a, vs, rfl, v_int r2, h1, k _ _ _ (Done.same hp (by cases d1 <;> first | cases e1; done | exact r1))⟩)
    rw [if_neg h1n] at q
    split at q
    case isFalse => cases q
    rename_i c
    cases q
    obtain ⟨a, vs, rfl, h1, h2⟩ := v_tup hp e1 r1
    have hne : vs ≠ [] := fun z => by
      have := h2.length
      rw [z] at this
      have : xs = [] := List.length_eq_zero_iff.mp this
      rw [this] at c
      exact absurd c.1.1 (by decide)
    refine .inr (.inl (.inr ⟨a, n, vs, rfl, v_int r2, h1, hne, c.1.2.1, c.1.2.2, by rw [← h2.length]; exact c.2, fun p hn => ?_⟩))
    have hp' : ∀ a o, P a = some o → upd P p (.tup (List.replicate n.toNat vs).flatten) a = some o := fun a o e => by rw [upd_ne (ne_of_none (hp a o e) hn)]; exact e
    refine k _ _ _ (Done.newD hp hn ?_)
    unfold Rep
    exact ⟨p, _, rfl, upd_same, (h2.rep n.toNat).mono ⟨⟨[], by simp⟩, hp'⟩⟩
  cases d2 with
  | int n =>
    cases d1 with
    | int i =>
      simp only [gMul] at e
      split at e
      case isFalse => cases e
      rename_i c
      cases e
      exact .inl (.inl ⟨i, n, v_int r1, v_int r2, cMul_ok c, k _ _ _ (Done.same hp rep_int)⟩)
    | str x =>
      simp only [gMul] at e
      split at e
      case isFalse => cases e
      rename_i c
      cases e
      exact .inl (.inr ⟨x, n, v_str r1, v_int r2, c, k _ _ _ (Done.same hp rep_str)⟩)
    | lst xs =>
      simp only [gMul] at e
      split at e
      case isFalse => cases e
      rename_i c
      cases e
      obtain ⟨a, vs, rfl, h1, h2⟩ := v_lst r1
      exact .inr (.inl (.inl ⟨a, n, vs, rfl, v_int r2, h1, c.1.1, c.1.2, by rw [← h2.length]; exact c.2, fun p hn => k _ _ _ (Done.newC hp hn ⟨_, upd_same, h2.rep n.toNat⟩)⟩))
    | tup xs => exact tup rfl rfl e
    | kt xs => exact tup rfl rfl e
    | _ => cases e
  | _ => cases d1 <;> cases e

/-! ### comparisons -/
mutual
def toPy : D → Option PyData
  | .non => some .none
  | .bl b => some (.bool b)
  | .int i => some (.int i)
  | .str x => some (.str x)
  | .tup xs => (toPys xs).map .tuple
  | .kt xs => (toPys xs).map .tuple
  | .lst xs => (toPys xs).map .list
  | .scr ns => some (.list (ns.map .int))
  | .ins _ _ _ => none
  | .dK _ _ => none
  | .dT _ _ => none
  | .ref _ => none
  | .ty _ => none
  | .cls _ => none
def toPys : List D → Option (List PyData)
  | [] => some []
  | x :: xs => (toPy x).bind fun p => (toPys xs).map (p :: ·)
end
mutual
theorem rep_dp {K : PySem.W.Frag} {ι : List Addr} {P H : Hp} (hp : ∀ a o, P a = some o → H a = some o) : ∀ (d : D) (v : V) (p : PyData), toPy d = some p → Rep K ι P d v → Dp K H v p
  | .non, v, p, e, r => by unfold toPy at e; cases e; unfold Rep at r; subst r; exact .non
  | .bl b, v, p, e, r => by unfold toPy at e; cases e; unfold Rep at r; subst r; exact .bl b
  | .int b, v, p, e, r => by unfold toPy at e; cases e; unfold Rep at r; subst r; exact .int b
  | .str b, v, p, e, r => by unfold toPy at e; cases e; unfold Rep at r; subst r; exact .str b
  | .tup xs, v, p, e, r => by
    unfold toPy at e
    obtain ⟨ps, e1, rfl⟩ := Option.map_eq_some_iff.mp e
    unfold Rep at r
    obtain ⟨a, vs, rfl, h1, h2⟩ := r
    exact .tup (SqT.of (hp _ _ h1)) (reps_dp hp xs vs ps e1 h2)
  | .kt xs, v, p, e, r => by
    unfold toPy at e
    obtain ⟨ps, e1, rfl⟩ := Option.map_eq_some_iff.mp e
    unfold Rep at r
    obtain ⟨a, vs, rfl, h1, h2⟩ := r
    exact .tup (SqT.mono hp h1) (reps_dp hp xs vs ps e1 h2)
  | .lst xs, v, p, e, r => by
    unfold toPy at e
    obtain ⟨ps, e1, rfl⟩ := Option.map_eq_some_iff.mp e
    unfold Rep at r
    obtain ⟨a, vs, rfl, h1, h2⟩ := r
    exact .lst (SqL.of (hp _ _ h1)) (reps_dp hp xs vs ps e1 h2)
  | .scr ns, v, p, e, r => by
    unfold toPy at e
    cases e
    unfold Rep at r
    obtain ⟨a, rfl, h1⟩ := r
    have : ∀ ns : List Int, DpAll K H (ns.map V.int) (ns.map PyData.int) := fun ns => by
      induction ns with
      | nil => exact .nil
      | cons n r ih => exact .cons (.int n) ih
    exact .lst (SqL.mono hp h1) (this ns)
  | .ins _ _ _, v, p, e, r => by unfold toPy at e; cases e
  | .dK _ _, v, p, e, r => by unfold toPy at e; cases e
  | .dT _ _, v, p, e, r => by unfold toPy at e; cases e
  | .ref _, v, p, e, r => by unfold toPy at e; cases e
  | .ty _, v, p, e, r => by unfold toPy at e; cases e
  | .cls _, v, p, e, r => by unfold toPy at e; cases e
theorem reps_dp {K : PySem.W.Frag} {ι : List Addr} {P H : Hp} (hp : ∀ a o, P a = some o → H a = some o) : ∀ (ds : List D) (vs : List V) (ps : List PyData), toPys ds = some ps → Reps K ι P ds vs → DpAll K H vs ps
  | [], vs, ps, e, r => by unfold toPys at e; cases e; unfold Reps at r; subst r; exact .nil
  | d :: ds, vs, ps, e, r => by
    unfold toPys at e
    obtain ⟨p, e1, e2⟩ := Option.bind_eq_some_iff.mp e
    obtain ⟨qs, e3, rfl⟩ := Option.map_eq_some_iff.mp e2
    obtain ⟨v, t, rfl, h1, h2⟩ := r.uncons
    exact .cons (rep_dp hp d v p e1 h1) (reps_dp hp ds t qs e3 h2)
end
theorem view_dp {K : PySem.W.Frag} {ι : List Addr} {P H : Hp} (hp : ∀ a o, P a = some o → H a = some o) {d : D} {v : V} {p : PyData} (e : toPy d = some p) (r : View K ι P H d v) : Dp K H v p := by
  cases d with
  | lst xs =>
    unfold toPy at e
    obtain ⟨ps, e1, rfl⟩ := Option.map_eq_some_iff.mp e
    obtain ⟨a, vs, rfl, h1, h2⟩ := v_lst r
    exact .lst (SqL.of h1) (reps_dp hp xs vs ps e1 h2)
  | ins _ _ _ => unfold toPy at e; cases e
  | dK _ _ => unfold toPy at e; cases e
  | dT _ _ => unfold toPy at e; cases e
  | _ => exact rep_dp (ι := ι) hp _ v p e r
/-- are two trees equal, by Python's == -/
def eqD (d1 d2 : D) : Option Bool := match d1, d2 with
  | .non, .non => some true
  | .int i, .int j => some (decide (i = j))
  | .bl i, .bl j => some (decide (i = j))
  | .str i, .str j => some (decide (i = j))
  | d1, d2 => (toPy d1).bind fun p => (toPy d2).bind fun q => if SeqAt.shaped p = true ∧ SeqAt.shaped q = true then some (PyData.eqv p q) else none
def gEq (d1 d2 : D) : Option Wv := (eqD d1 d2).map fun b => .d (.bl b)
def gNe (d1 d2 : D) : Option Wv := (eqD d1 d2).map fun b => .d (.bl (!b))
def rEqA (K : PySem.W.Frag) : R2 := fun x y H Q => rEq x y H Q ∨ rEqD K x y H Q
def rNeA (K : PySem.W.Frag) : R2 := fun x y H Q => rNe x y H Q ∨ rNeD K x y H Q
theorem eqD_cases {K : PySem.W.Frag} {ι : List Addr} {P H : Hp} {d1 d2 : D} {v1 v2 : V} {b : Bool} (hp : ∀ a o, P a = some o → H a = some o) (e : eqD d1 d2 = some b) (r1 : View K ι P H d1 v1) (r2 : View K ι P H d2 v2) :
    (scal v1 v2 = true ∧ decide (v1 = v2) = b) ∨ ∃ p q, Dp K H v1 p ∧ Dp K H v2 q ∧ SeqAt.shaped p = true ∧ SeqAt.shaped q = true ∧ PyData.eqv p q = b := by
  unfold eqD at e
  split at e
  · cases e
    rw [v_non r1, v_non r2]
    exact .inl ⟨rfl, rfl⟩
  · cases e
    rw [v_int r1, v_int r2]
    exact .inl ⟨rfl, by simp⟩
  · cases e
    rw [v_bl r1, v_bl r2]
    exact .inl ⟨rfl, by simp⟩
  · cases e
    rw [v_str r1, v_str r2]
    exact .inl ⟨rfl, by simp⟩
  · obtain ⟨p, e1, e⟩ := Option.bind_eq_some_iff.mp e
    obtain ⟨q, e2, e⟩ := Option.bind_eq_some_iff.mp e
    split at e
    · rename_i c
      cases e
      exact .inr ⟨p, q, view_dp hp e1 r1, view_dp hp e2 r2, c.1, c.2, rfl⟩
    · cases e
theorem good_eq {K : PySem.W.Frag} : Good2 K (rEqA K) gEq := fun {ι P H d1 d2 w v1 v2 Q} hp e r1 r2 k => by
  obtain ⟨b, e1, rfl⟩ := Option.map_eq_some_iff.mp e
  rcases eqD_cases hp e1 r1 r2 with ⟨h1, h2⟩ | ⟨p, q, h1, h2, h3, h4, h5⟩
  · exact .inl ⟨h1, by rw [h2]; exact k _ _ _ (Done.same hp rep_bl)⟩
  · exact .inr ⟨p, q, h1, h2, h3, h4, by rw [h5]; exact k _ _ _ (Done.same hp rep_bl)⟩
theorem good_ne {K : PySem.W.Frag} : Good2 K (rNeA K) gNe := fun {ι P H d1 d2 w v1 v2 Q} hp e r1 r2 k => by
  obtain ⟨b, e1, rfl⟩ := Option.map_eq_some_iff.mp e
  rcases eqD_cases hp e1 r1 r2 with ⟨h1, h2⟩ | ⟨p, q, h1, h2, h3, h4, h5⟩
  · exact .inl ⟨h1, by rw [h2]; exact k _ _ _ (Done.same hp rep_bl)⟩
  · exact .inr ⟨p, q, h1, h2, h3, h4, by rw [h5]; exact k _ _ _ (Done.same hp rep_bl)⟩
/-- x in xs: a list or a tuple of flat things, a sign in a text, a key in a dict -/
def flatD : D → Bool
  | .non => true
  | .bl _ => true
  | .int _ => true
  | .str _ => true
  | _ => false
def eqF : D → D → Bool
  | .non, .non => true
  | .bl a, .bl b => a == b
  | .bl a, .int b => (if a then 1 else 0) == b
  | .int a, .bl b => a == (if b then 1 else 0)
  | .int a, .int b => a == b
  | .str a, .str b => a == b
  | _, _ => false
def inS (x y : D) : Option Bool := match x, y with
  | .str a, .str z => if a.cps.size = 1 then some (decide (a.cps.getD 0 0 ∈ z.cps.toList)) else none
  | x, y => (seqOf y).bind fun xs => if flatD x = true ∧ xs.all flatD = true then some (xs.any fun y => eqF y x) else none
def inD (x y : D) : Option Bool := (dictAt y x).map Option.isSome
def gInS (n : Bool) (x y : D) : Option Wv := (inS x y).map fun b => .d (.bl (if n then !b else b))
def gInD (n : Bool) (x y : D) : Option Wv := (inD x y).map fun b => .d (.bl (if n then !b else b))
def gIn (n : Bool) (x y : D) : Option Wv := match y with
  | .dK _ _ => gInD n x y
  | .dT _ _ => gInD n x y
  | _ => gInS n x y
theorem flat_v {K : PySem.W.Frag} {ι : List Addr} {P : Hp} {d : D} {v : V} (f : flatD d = true) (r : Rep K ι P d v) : flatV v = true := by
  cases d <;> first | (unfold Rep at r; subst r; rfl) | cases f
theorem eqF_v {K : PySem.W.Frag} {ι : List Addr} {P : Hp} {d e : D} {v u : V} (f : flatD d = true) (g : flatD e = true) (r : Rep K ι P d v) (q : Rep K ι P e u) : eqV v u = eqF d e := by
  cases d <;> first | (cases f; done) | (cases e <;> first | (cases g; done) | (unfold Rep at r q; subst r q; rfl))
theorem any_v {K : PySem.W.Frag} {ι : List Addr} {P : Hp} {x : D} {v : V} (g : flatD x = true) (q : Rep K ι P x v) : ∀ {xs : List D} {vs : List V}, xs.all flatD = true → Reps K ι P xs vs → vs.all flatV = true ∧ inV v vs = xs.any fun y => eqF y x
  | [], vs, _, r => by unfold Reps at r; subst r; exact ⟨rfl, rfl⟩
  | d :: ds, vs, f, r => by
    obtain ⟨u, t, rfl, h1, h2⟩ := r.uncons
    rw [List.all_cons] at f
    obtain ⟨f1, f2⟩ := Bool.and_eq_true_iff.mp f
    obtain ⟨a1, a2⟩ := any_v g q f2 h2
    refine ⟨by rw [List.all_cons, flat_v f1 h1, a1]; rfl, ?_⟩
    unfold inV at a2 ⊢
    rw [List.any_cons, List.any_cons, a2, eqF_v f1 g h1 q]
theorem flat_rep {K : PySem.W.Frag} {ι : List Addr} {P H : Hp} {d : D} {v : V} (f : flatD d = true) (r : View K ι P H d v) : Rep K ι P d v := by
  cases d <;> first | exact r | cases f
def rInS (K : PySem.W.Frag) (n : Bool) : R2 := fun x y H Q => rIn K n x y H Q ∨ ∃ (c : Nat) (z : Str), x = .str ⟨#[c]⟩ ∧ y = .str z ∧ Q (.bl (if n then !decide (c ∈ z.cps.toList) else decide (c ∈ z.cps.toList))) H
def rInD (n : Bool) : R2 := fun x y H Q => ∃ a o, y = .ref a ∧ DGet H a x o ∧ Q (.bl (if n then !o.isSome else o.isSome)) H
theorem op_inS {X : Cx} : OpR X (compareOp .In) (rInS X.K false) := op_in_seq.or op_in_sign
theorem op_notInS {X : Cx} : OpR X (compareOp .NotIn) (rInS X.K true) := op_notIn_seq.or op_notIn_sign
theorem op_inDD {X : Cx} (hu : X.A.units + 1 < cLine) : OpR X (compareOp .In) (rInD false) := fun pins s σ H x y v u Q I rx ry h => by
  obtain ⟨a, o, rfl, g, q⟩ := h
  cases ry
  exact d_in hu I g rx fun s' I' => ⟨.bl _, H, I', rfl, q⟩
theorem op_notInDD {X : Cx} (hu : X.A.units + 1 < cLine) : OpR X (compareOp .NotIn) (rInD true) := fun pins s σ H x y v u Q I rx ry h => by
  obtain ⟨a, o, rfl, g, q⟩ := h
  cases ry
  exact d_notIn hu I g rx fun s' I' => ⟨.bl _, H, I', rfl, q⟩
theorem good_inS {K : PySem.W.Frag} {n : Bool} : Good2 K (rInS K n) (gInS n) := fun {ι P H d1 d2 w v1 v2 Q} hp e r1 r2 k => by
  obtain ⟨b, e1, rfl⟩ := Option.map_eq_some_iff.mp e
  unfold inS at e1
  split at e1
  · rename_i a z
    split at e1
    case isFalse => cases e1
    rename_i hc
    cases e1
    have ea : a = ⟨#[a.cps.getD 0 0]⟩ := by
      obtain ⟨⟨l⟩⟩ := a
      match l, hc with
      | [c], _ => rfl
    refine .inr ⟨a.cps.getD 0 0, z, ?_, v_str r2, k _ _ _ (Done.same hp rep_bl)⟩
    rw [v_str r1]
    exact congrArg V.str ea
  · obtain ⟨xs, e2, e3⟩ := Option.bind_eq_some_iff.mp e1
    split at e3
    case isFalse => cases e3
    rename_i c
    cases e3
    obtain ⟨a, vs, rfl, h1, h2⟩ := v_seq hp e2 r2
    have h3 := flat_rep c.1 r1
    obtain ⟨a1, a2⟩ := any_v c.1 h3 c.2 h2
    refine .inl ⟨a, vs, rfl, h1, flat_v c.1 h3, a1, ?_⟩
    rw [a2]
    exact k _ _ _ (Done.same hp rep_bl)
theorem good_inD {K : PySem.W.Frag} {n : Bool} : Good2 K (rInD n) (gInD n) := fun {ι P H d1 d2 w v1 v2 Q} hp e r1 r2 k => by
  obtain ⟨b, e1, rfl⟩ := Option.map_eq_some_iff.mp e
  obtain ⟨o, e2, rfl⟩ := Option.map_eq_some_iff.mp e1
  obtain ⟨a, ov, rfl, h1, h2⟩ := dict_get hp e2 r2 r1
  have : ov.isSome = o.isSome := by cases o <;> cases ov <;> first | rfl | exact h2.elim
  exact ⟨a, ov, rfl, h1, by rw [this]; exact k _ _ _ (Done.same hp rep_bl)⟩
/-- is None, is True -/
def gIsN (n : Bool) : D → D → Option Wv
  | x, .non => (match x with
    | .non => some (.d (.bl (!n)))
    | _ => some (.d (.bl n)))
  | .bl a, .bl b => some (.d (.bl (if n then !decide (a = b) else decide (a = b))))
  | _, _ => none
def rIs : R2 := fun x y H Q => (y = .non ∧ Q (.bl (decide (x = .non))) H) ∨ rIsB x y H Q
def rIsNot : R2 := fun x y H Q => (y = .non ∧ Q (.bl (!decide (x = .non))) H) ∨ rNotB x y H Q
theorem non_iff {K : PySem.W.Frag} {ι : List Addr} {P H : Hp} {d : D} {v : V} (h : d ≠ .non) (r : View K ι P H d v) : v ≠ .non := by
  cases d with
  | non => exact absurd rfl h
  | lst _ => obtain ⟨a, vs, rfl, _⟩ := r; exact fun z => nomatch z
  | ins _ _ _ => obtain ⟨a, dx, vs, rfl, _⟩ := r; exact fun z => nomatch z
  | dK _ _ => obtain ⟨a, vs, rfl, _⟩ := r; exact fun z => nomatch z
  | dT _ _ => obtain ⟨a, vs, rfl, _⟩ := r; exact fun z => nomatch z
  | tup _ => have r : Rep K ι P _ v := r; unfold Rep at r; obtain ⟨a, vs, rfl, _⟩ := r; exact fun z => nomatch z
  | kt _ => have r : Rep K ι P _ v := r; unfold Rep at r; obtain ⟨a, vs, rfl, _⟩ := r; exact fun z => nomatch z
  | scr _ => have r : Rep K ι P _ v := r; unfold Rep at r; obtain ⟨a, rfl, _⟩ := r; exact fun z => nomatch z
  | ref _ => have r : Rep K ι P _ v := r; unfold Rep at r; obtain ⟨a, rfl, _⟩ := r; exact fun z => nomatch z
  | _ => have r : Rep K ι P _ v := r; unfold Rep at r; subst r; exact fun z => nomatch z
theorem good_is {K : PySem.W.Frag} : Good2 K rIs (gIsN false) := fun {ι P H d1 d2 w v1 v2 Q} hp e r1 r2 k => by
  by_cases h2 : d2 = .non
  · subst h2
    by_cases h1 : d1 = .non
    · subst h1
      cases e
      rw [v_non r1, v_non r2]
      exact .inl ⟨rfl, k _ _ _ (Done.same hp rep_bl)⟩
    · have : w = .d (.bl false) := by
        cases d1 <;> first | exact absurd rfl h1 | (cases e; rfl)
      subst this
      rw [v_non r2]
      refine .inl ⟨rfl, ?_⟩
      rw [decide_eq_false (non_iff h1 r1)]
      exact k _ _ _ (Done.same hp rep_bl)
  · cases d1 with
    | bl a => cases d2 with
      | bl b => cases e; exact .inr ⟨a, b, v_bl r1, v_bl r2, k _ _ _ (Done.same hp rep_bl)⟩
      | non => exact absurd rfl h2
      | _ => cases e
    | _ => cases d2 <;> first | exact absurd rfl h2 | cases e
theorem good_isNot {K : PySem.W.Frag} : Good2 K rIsNot (gIsN true) := fun {ι P H d1 d2 w v1 v2 Q} hp e r1 r2 k => by
  by_cases h2 : d2 = .non
  · subst h2
    by_cases h1 : d1 = .non
    · subst h1
      cases e
      rw [v_non r1, v_non r2]
      exact .inl ⟨rfl, k _ _ _ (Done.same hp rep_bl)⟩
    · have : w = .d (.bl true) := by
        cases d1 <;> first | exact absurd rfl h1 | (cases e; rfl)
      subst this
      rw [v_non r2]
      refine .inl ⟨rfl, ?_⟩
      rw [decide_eq_false (non_iff h1 r1)]
      exact k _ _ _ (Done.same hp rep_bl)
  · cases d1 with
    | bl a => cases d2 with
      | bl b => cases e; exact .inr ⟨a, b, v_bl r1, v_bl r2, k _ _ _ (Done.same hp rep_bl)⟩
      | non => exact absurd rfl h2
      | _ => cases e
    | _ => cases d2 <;> first | exact absurd rfl h2 | cases e
section
variable {X : Cx} {W : WX} {a b e : Expr} {pos : Pos} {o1 o2 : Opd}
theorem jw_mul (ha : JO X W a o1) (hb : JO X W b o2) : JW X W (.BinOp a .Mult b pos) (cOp2 gMul o1 o2) := jw_bin op_mulA good_mul ha hb
/-- a comparison: its operator's rule by values, its function by trees -/
structure CmpOk (X : Cx) (op : CmpOp) (b : Expr) (g : D → D → Option Wv) where
  r : R2
  h : OpR X (compareOp op) r
  g : Good2 X.K r g
  m : behindInMarks op b = false
theorem jw_c {op : CmpOp} {g : D → D → Option Wv} (c : CmpOk X op b g) (ha : JO X W a o1) (hb : JO X W b o2) : JW X W (.Compare a [op] [b] pos) (cOp2 g o1 o2) := jw_cmp c.h c.g ha hb c.m
theorem jt_c {op : CmpOp} {g : D → D → Option Wv} (c : CmpOk X op b g) (ha : JO X W a o1) (hb : JO X W b o2) : JT X W (.Compare a [op] [b] pos) (cB (cOp2 g o1 o2)) := jt_cmp c.h c.g ha hb c.m
def cLt : CmpOk X .Lt b (gB2 fun i j => decide (i < j)) := ⟨_, op_lt, good_B0 fun _ _ => rfl, nomark _⟩
def cLe : CmpOk X .LtE b (gB2 fun i j => decide (i ≤ j)) := ⟨_, op_le, good_B0 fun _ _ => rfl, nomark _⟩
def cGt : CmpOk X .Gt b (gB2 fun i j => decide (j < i)) := ⟨_, op_gt, good_B0 fun _ _ => rfl, nomark _⟩
def cGe : CmpOk X .GtE b (gB2 fun i j => decide (j ≤ i)) := ⟨_, op_ge, good_B0 fun _ _ => rfl, nomark _⟩
def cEq (hu : X.A.units + 64 < cLine) : CmpOk X .Eq b gEq := ⟨rEqA X.K, op_eq.or (op_eqD hu), good_eq, nomark _⟩
def cNe (hu : X.A.units + 64 < cLine) : CmpOk X .NotEq b gNe := ⟨rNeA X.K, op_ne.or (op_neD hu), good_ne, nomark _⟩
def cIs : CmpOk X .Is b (gIsN false) := ⟨rIs, op_isN.or op_isBl, good_is, nomark _⟩
def cIsNot : CmpOk X .IsNot b (gIsN true) := ⟨rIsNot, op_notN.or op_notBl, good_isNot, nomark _⟩
theorem jw_in (hu : X.A.units + 1 < cLine) (ha : JO X W a o1) (hb : JO X W b o2) (hm : behindInMarks .In b = false := by rfl) : JW X W (.Compare a [.In] [b] pos) (cOp2 (gIn false) o1 o2) :=
  pe_weak (pe_or' (pe_cmpR op_inS ha hb hm) (pe_cmpR (op_inDD hu) ha hb hm)) fun σ H Q h => by
    rcases cOp2_split (g1 := gInS false) (g2 := gInD false) (fun d1 d2 w e => by cases d2 <;> first | exact .inl e | exact .inr e) h with h | h
    · exact .inl (op2_t good_inS h)
    · exact .inr (op2_t good_inD h)
theorem jw_notIn (hu : X.A.units + 1 < cLine) (ha : JO X W a o1) (hb : JO X W b o2) (hm : behindInMarks .NotIn b = false := by rfl) : JW X W (.Compare a [.NotIn] [b] pos) (cOp2 (gIn true) o1 o2) :=
  pe_weak (pe_or' (pe_cmpR op_notInS ha hb hm) (pe_cmpR (op_notInDD hu) ha hb hm)) fun σ H Q h => by
    rcases cOp2_split (g1 := gInS true) (g2 := gInD true) (fun d1 d2 w e => by cases d2 <;> first | exact .inl e | exact .inr e) h with h | h
    · exact .inl (op2_t good_inS h)
    · exact .inr (op2_t good_inD h)
/-- a comparison's value, as a test -/
theorem pt_or {t t' : TT} (h : PT X e t) (h' : PT X e t') : PT X e (fun σ H Q => t σ H Q ∨ t' σ H Q) := ⟨fun pins s σ H Q I q => by
  rcases q with q | q
  · exact h.run pins s σ H Q I q
  · exact h'.run pins s σ H Q I q⟩
theorem jt_in (hu : X.A.units + 1 < cLine) (ha : JO X W a o1) (hb : JO X W b o2) (hm : behindInMarks .In b = false := by rfl) : JT X W (.Compare a [.In] [b] pos) (cB (cOp2 (gIn false) o1 o2)) :=
  pt_weak (pt_or (pt_cmpR op_inS ha hb hm) (pt_cmpR (op_inDD hu) ha hb hm)) fun σ H Q h => by
    rcases cOp2_split (g1 := gInS false) (g2 := gInD false) (fun d1 d2 w e => by cases d2 <;> first | exact .inl e | exact .inr e) (cB_t h) with h | h
    · exact .inl (op2_t good_inS h)
    · exact .inr (op2_t good_inD h)
theorem jt_notIn (hu : X.A.units + 1 < cLine) (ha : JO X W a o1) (hb : JO X W b o2) (hm : behindInMarks .NotIn b = false := by rfl) : JT X W (.Compare a [.NotIn] [b] pos) (cB (cOp2 (gIn true) o1 o2)) :=
  pt_weak (pt_or (pt_cmpR op_notInS ha hb hm) (pt_cmpR (op_notInDD hu) ha hb hm)) fun σ H Q h => by
    rcases cOp2_split (g1 := gInS true) (g2 := gInD true) (fun d1 d2 w e => by cases d2 <;> first | exact .inl e | exact .inr e) (cB_t h) with h | h
    · exact .inl (op2_t good_inS h)
    · exact .inr (op2_t good_inD h)
/-- a < b < c -/
def cChain (g g' : D → D → Option Wv) (o1 o2 o3 : Opd) : S → Res Wv := fun s => (o1.run s).bind fun x1 s1 => (o2.run s1).bind fun x2 s2 => match o1.get x1 s2, o2.get x2 s2 with
  | some d1, some d2 => (match g d1 d2 with
    | some (.d (.bl true)) => (o3.run s2).bind fun x3 s3 => (match o2.get x2 s3, o3.get x3 s3 with
      | some d2, some d3 => Res.lift (g' d2 d3) s3
      | _, _ => .stuck)
    | some (.d (.bl false)) => .ok (.d (.bl false)) s2
    | _ => .stuck)
  | _, _ => .stuck
end
end PL
end

section
set_option Elab.async false
set_option linter.all false
set_option maxRecDepth 100000
set_option maxHeartbeats 2000000
namespace PL
open PySem PySem.Spec PyProof.Rows L2

/-! ### many operands -/
def runs : List Opd → S → Res (List (Option D))
  | [], s => .ok [] s
  | o :: os, s => (o.run s).bind fun x s1 => (runs os s1).bind fun xs s2 => .ok (x :: xs) s2
def gets : List Opd → List (Option D) → S → Option (List D)
  | [], [], _ => some []
  | o :: os, x :: xs, s => (o.get x s).bind fun d => (gets os xs s).map (d :: ·)
  | _, _, _ => none
def ROs (K : PySem.W.Frag) : List Opd → RT (List (Option D)) (List V)
  | [], _, _, _, _, _, _, xs, vs => xs = [] ∧ vs = []
  | o :: os, Z, σ, ι, P, H, s, xs, vs => ∃ x xr v vr, xs = x :: xr ∧ vs = v :: vr ∧ RO K o Z σ ι P H s x v ∧ ROs K os Z σ ι P H s xr vr
abbrev JOs (X : Cx) (W : WX) (es : List Expr) (os : List Opd) : Prop := PA X es (tR X.K (ROs X.K os) W (runs os))
def Views (K : PySem.W.Frag) (ι : List Addr) (P H : Hp) : List D → List V → Prop
  | [], vs => vs = []
  | d :: ds, vs => ∃ v r, vs = v :: r ∧ View K ι P H d v ∧ Views K ι P H ds r
def cOpN (g : List D → Option Wv) (os : List Opd) : S → Res Wv := fun s => (runs os s).bind fun xs s1 => match gets os xs s1 with
  | some ds => Res.lift (g ds) s1
  | none => .stuck
def GoodN (K : PySem.W.Frag) (r : List V → Hp → VK → Prop) (g : List D → Option Wv) : Prop :=
  ∀ {ι : List Addr} {P H : Hp} {ds : List D} {w : Wv} {vs : List V} {Q : VK}, (∀ a o, P a = some o → H a = some o) → g ds = some w → Views K ι P H ds vs →
    (∀ v' P' H', Done K ι P H w v' P' H' → Q v' H') → r vs H Q
section
variable {K : PySem.W.Frag} {Z : Hp} {ι ι' : List Addr} {P P' H H0 H1 : Hp} {s s0 s1 : S} {σ : L2.St} {W : WX} {X : Cx} {e : Expr} {es : List Expr} {os : List Opd} {o : Opd} {xs : List (Option D)} {vs : List V}
theorem ROs.mono (e : XZ Z ι P ι' P') : ∀ {os : List Opd} {xs : List (Option D)} {vs : List V}, ROs K os Z σ ι P H0 s0 xs vs → ROs K os Z σ ι' P' H1 s1 xs vs
  | [], xs, vs, r => r
  | o :: os, xs, vs, ⟨x, xr, v, vr, e1, e2, r1, r2⟩ => ⟨x, xr, v, vr, e1, e2, r1.mono e, ROs.mono e r2⟩
theorem ROs.views (h : SRel K Z ι P H s σ) : ∀ {os : List Opd} {xs : List (Option D)} {vs : List V} {ds : List D}, ROs K os Z σ ι P H0 s0 xs vs → gets os xs s = some ds → Views K ι P H ds vs
  | [], xs, vs, ds, ⟨e1, e2⟩, e => by subst e1 e2; cases e; exact rfl
  | o :: os, xs, vs, ds, ⟨x, xr, v, vr, e1, e2, r1, r2⟩, e => by
    subst e1 e2
    obtain ⟨d, e3, e4⟩ := Option.bind_eq_some_iff.mp (show ((o.get x s).bind fun d => (gets os xr s).map (d :: ·)) = some ds from e)
    obtain ⟨dr, e5, rfl⟩ := Option.map_eq_some_iff.mp e4
    exact ⟨v, vr, rfl, RO.view h r1 e3, ROs.views h r2 e5⟩
theorem jos_nil : JOs X W [] [] := pa_weak pa_nil fun σ H Q ⟨s, ι, P, Z, hS, hO⟩ => Out.ok hO hS ⟨rfl, rfl⟩
theorem jos_cons (h : JO X W e o) (h' : JOs X W es os) (hs : starEach (e :: es) X.env = (false, eval e X.env) :: starEach es X.env := by rfl) : JOs X W (e :: es) (o :: os) :=
  pa_weak (pa_cons h h' hs) fun σ H Q ⟨s, ι, P, Z, hS, hO⟩ => tR_bind hS hO fun x s1 v H1 ι1 P1 x1 S1 r1 o1 => tR_bind S1 o1 fun xs s2 vs H2 ι2 P2 x2 S2 r2 o2 =>
    Out.ok o2 S2 ⟨x, xs, v, vs, rfl, rfl, RO.mono (H1 := H2) (s1 := s2) r1 x2, r2⟩
theorem opN_t {r : List V → Hp → VK → Prop} {g : List D → Option Wv} (G : GoodN K r g) {Q : VK} (h : tW K W (cOpN g os) σ H Q) : tR K (ROs K os) W (runs os) σ H (fun vs H1 => r vs H1 Q) := by
  obtain ⟨s, ι, P, Z, hS, hO⟩ := h
  refine tR_bind hS hO fun xs s1 vs H1 ι1 P1 x1 S1 r1 o1 => ?_
  try dsimp only at o1
  cases q : gets os xs s1 with
  | none => rw [q] at o1; exact o1.elim
  | some ds =>
    rw [q] at o1
    try dsimp only at o1
    cases q2 : g ds with
    | none => rw [q2] at o1; exact o1.elim
    | some w =>
      rw [q2] at o1
      refine G S1.p q2 (ROs.views S1 r1 q) fun v' P' H' dn => ?_
      obtain ⟨xz, S2, rw2⟩ := S1.done dn
      exact Out.okX o1 xz S2 rw2
theorem views1 {d : D} (h : Views K ι P H [d] vs) : ∃ v, vs = [v] ∧ View K ι P H d v := by
  obtain ⟨v, r, rfl, h1, h2⟩ := h
  have h2 : r = [] := h2
  subst h2
  exact ⟨v, rfl, h1⟩
theorem views2 {d d' : D} (h : Views K ι P H [d, d'] vs) : ∃ v v', vs = [v, v'] ∧ View K ι P H d v ∧ View K ι P H d' v' := by
  obtain ⟨v, r, rfl, h1, h2⟩ := h
  obtain ⟨v', rfl, h3⟩ := views1 h2
  exact ⟨v, v', rfl, h1, h3⟩
variable {x : Str} {p pos apos : Pos} {id T : String} {r : List V → Hp → VK → Prop} {g : List D → Option Wv}
theorem jw_blt (hc : CallR X (.builtin id) r) (G : GoodN X.K r g) (hg : Gl X x) (hm : X.mg x = none) (hv : bootBuiltins x = some (.builtin id)) (ha : JOs X W (e :: es) os) (hn : x ≠ "__name__" := by decide) (hdb : (x == ("__debug__" : Str)) = false := by decide)
    (he : starEach (e :: es) X.env = (false, eval e X.env) :: starEach es X.env := by rfl) (hpl : (backTo pos (starEach es X.env)).any (·.1) = false := by rfl) : JW X W (.Call (.Name x p) (e :: es) [] pos) (cOpN g os) :=
  pe_weak (pe_callB hc hg hm hv ha hn hdb he hpl) fun σ H Q h => opN_t G h
theorem jw_ty (hc : CallR X (.type T) r) (G : GoodN X.K r g) (hg : Gl X x) (hm : X.mg x = none) (hv : bootBuiltins x = some (.type T)) (ha : JOs X W (e :: es) os) (hn : x ≠ "__name__" := by decide) (hdb : (x == ("__debug__" : Str)) = false := by decide)
    (he : starEach (e :: es) X.env = (false, eval e X.env) :: starEach es X.env := by rfl) (hpl : (backTo pos (starEach es X.env)).any (·.1) = false := by rfl) : JW X W (.Call (.Name x p) (e :: es) [] pos) (cOpN g os) :=
  pe_weak (pe_callTy hc hg hm hv ha hn hdb he hpl) fun σ H Q h => opN_t G h
/-- o.m(e, ..), a built-in type's method that changes nothing -/
def tyD (T : String) : D → Bool
  | .str _ => T == "str"
  | .lst _ => T == "list"
  | .scr _ => T == "list"
  | .dK _ _ => T == "dict"
  | _ => false
def GoodM (K : PySem.W.Frag) (r : V → List V → Hp → VK → Prop) (g : D → List D → Option Wv) : Prop :=
  ∀ {ι : List Addr} {P H : Hp} {d : D} {ds : List D} {w : Wv} {v : V} {vs : List V} {Q : VK}, (∀ a o, P a = some o → H a = some o) → g d ds = some w → View K ι P H d v → Views K ι P H ds vs →
    (∀ v' P' H', Done K ι P H w v' P' H' → Q v' H') → r v vs H Q
theorem tyD_v {T : String} {d : D} {v : V} (hT : T ≠ "dict") (hp : ∀ a o, P a = some o → H a = some o) (e : tyD T d = true) (r : View K ι P H d v) : tyV K T v H := by
  cases d with
  | str z => rw [v_str r]; exact eq_of_beq e
  | lst xs =>
    obtain ⟨a, vs, rfl, h1, _⟩ := v_lst r
    exact .inl ⟨eq_of_beq e, vs, SqL.of h1⟩
  | scr ns =>
    have r : Rep K ι P (.scr ns) v := r
    unfold Rep at r
    obtain ⟨a, rfl, h1⟩ := r
    exact .inl ⟨eq_of_beq e, _, SqL.mono hp h1⟩
  | dK ks vs => exact absurd (eq_of_beq e) hT
  | _ => cases e
def cMth (T : String) (g : D → List D → Option Wv) (o : Opd) (os : List Opd) : S → Res Wv := fun s => (o.run s).bind fun x s1 => if (o.get x s1).any (tyD T) = true then ((runs os s1).bind fun xs s2 => match o.get x s2, gets os xs s2 with
  | some d, some ds => Res.lift (g d ds) s2
  | _, _ => .stuck) else .stuck
theorem mth_t {T : String} (hT : T ≠ "dict") {r : V → List V → Hp → VK → Prop} {g : D → List D → Option Wv} (G : GoodM K r g) {Q : VK} (h : tW K W (cMth T g o os) σ H Q) : tBM K T r (tR K (RO K o) W o.run) (tR K (ROs K os) W (runs os)) σ H Q := by
  obtain ⟨s, ι, P, Z, hS, hO⟩ := h
  refine tR_bind hS hO fun x s1 v H1 ι1 P1 x1 S1 r1 o1 => ?_
  try dsimp only at o1
  by_cases q : (o.get x s1).any (tyD T) = true
  case neg => rw [if_neg q] at o1; exact o1.elim
  rw [if_pos q] at o1
  obtain ⟨d0, e0, t0⟩ := any_some q
  refine ⟨tyD_v hT S1.p t0 (RO.view S1 r1 e0), ?_⟩
  refine tR_bind S1 o1 fun xs s2 vs H2 ι2 P2 x2 S2 r2 o2 => ?_
  try dsimp only at o2
  cases q1 : o.get x s2 with
  | none => rw [q1] at o2; exact o2.elim
  | some d =>
    cases q2 : gets os xs s2 with
    | none => rw [q1, q2] at o2; exact o2.elim
    | some ds =>
      rw [q1, q2] at o2
      try dsimp only at o2
      cases q3 : g d ds with
      | none => rw [q3] at o2; exact o2.elim
      | some w =>
        rw [q3] at o2
        refine G S2.p q3 (RO.view (H0 := H1) (s0 := s1) S2 (r1.mono x2) q1) (ROs.views S2 r2 q2) fun v' P' H' dn => ?_
        obtain ⟨xz, S3, rw3⟩ := S2.done dn
        exact Out.okX o2 xz S3 rw3
theorem jw_mth {ob : Expr} {name : Str} {T id : String} {r : V → List V → Hp → VK → Prop} {g : D → List D → Option Wv} (pa : PlainAttrs T) (slot : Slot T name id) (hty : typeOf (.builtin id) = pure (.type "method_descriptor")) (hm : MtR X id r) (G : GoodM X.K r g) (hT : T ≠ "dict") (ho : JO X W ob o) (ha : JOs X W (e :: es) os)
    (hbase : attributeBase ob name X.env (eval ob X.env) = eval ob X.env := by rfl)
    (hfew : ((backTo pos (starEach (e :: es) X.env)).all (fun x => !x.1) && (backToKw pos (keywordEach [] X.env)).all (fun x => x.1.isSome)
      && decide ((e :: es).length + ([] : List Keyword).length + (if ([] : List Keyword).isEmpty then 0 else 1) < 30)) = true := by rfl)
    (hline : (apos.endLine == pos.line) = true := by rfl) (hs : starEach (e :: es) X.env = (false, eval e X.env) :: starEach es X.env := by rfl) (hplain : (backTo pos (starEach es X.env)).any (·.1) = false := by rfl) : JW X W (.Call (.Attribute ob name apos) (e :: es) [] pos) (cMth T g o os) :=
  pe_weak (pe_bm pa slot hty hm ho ha hbase hfew hline hs hplain) fun σ H Q h => mth_t hT G h

/-! ### a < b < c -/
theorem chain_t {o1 o2 o3 : Opd} {r r' : R2} {g g' : D → D → Option Wv} (G : Good2 K r g) (G' : Good2 K r' g') {Q : VK} (h : tW K W (cChain g g' o1 o2 o3) σ H Q) : tChain r r' (tR K (RO K o1) W o1.run) (tR K (RO K o2) W o2.run) (tR K (RO K o3) W o3.run) σ H Q := by
  obtain ⟨s, ι, P, Z, hS, hO⟩ := h
  refine tR_bind hS hO fun x1 s1 v1 H1 ι1 P1 e1 S1 r1 h1 => ?_
  refine tR_bind S1 h1 fun x2 s2 v2 H2 ι2 P2 e2 S2 r2 h2 => ?_
  try dsimp only at h2
  cases q : o1.get x1 s2 with
  | none => rw [q] at h2; exact h2.elim
  | some d1 =>
    cases q' : o2.get x2 s2 with
    | none => rw [q, q'] at h2; exact h2.elim
    | some d2 =>
      rw [q, q'] at h2
      try dsimp only at h2
      cases q2 : g d1 d2 with
      | none => rw [q2] at h2; exact h2.elim
      | some w =>
        rw [q2] at h2
        refine G S2.p q2 (RO.view (H0 := H1) (s0 := s1) S2 (r1.mono e2) q) (RO.view S2 r2 q') fun v' P' H' dn => ?_
        obtain ⟨xz, S3, rw3⟩ := S2.done dn
        cases w with
        | nw c => exact h2.elim
        | d d => cases d with
          | bl b =>
            have ev : v' = .bl b := by have := rw3; unfold WRep Rep at this; exact this
            refine ⟨b, ev, ?_⟩
            cases b with
            | false => rw [if_neg (by decide)]; exact Out.okX h2 xz S3 (by unfold RW WRep Rep; rfl)
            | true =>
              rw [if_pos rfl]
              have h2 := h2.trans xz
              refine tR_bind S3 h2 fun x3 s3 v3 H4 ι4 P4 e4 S4 r4 h4 => ?_
              try dsimp only at h4
              cases q5 : o2.get x2 s3 with
              | none => rw [q5] at h4; exact h4.elim
              | some d2' =>
                cases q6 : o3.get x3 s3 with
                | none => rw [q5, q6] at h4; exact h4.elim
                | some d3 =>
                  rw [q5, q6] at h4
                  try dsimp only at h4
                  cases q7 : g' d2' d3 with
                  | none => rw [q7] at h4; exact h4.elim
                  | some w' =>
                    rw [q7] at h4
                    refine G' S4.p q7 (RO.view (H0 := H2) (s0 := s2) S4 ((RO.mono (H0 := H2) (s0 := s2) (H1 := H2) (s1 := s2) r2 xz).mono e4) q5) (RO.view S4 r4 q6) fun v' P' H' dn => ?_
                    obtain ⟨xz, S5, rw5⟩ := S4.done dn
                    exact Out.okX h4 xz S5 rw5
          | _ => exact h2.elim
variable {a b c : Expr} {o1 o2 o3 : Opd} {op op' : CmpOp} {g2 g3 : D → D → Option Wv}
theorem jw_chain (k : CmpOk X op b g2) (k' : CmpOk X op' c g3) (ha : JO X W a o1) (hb : JO X W b o2) (hc : JO X W c o3) (hm : lastMarks [op, op'] [b, c] = false := by with_unfolding_all rfl) : JW X W (.Compare a [op, op'] [b, c] pos) (cChain g2 g3 o1 o2 o3) :=
  pe_weak (pe_chain k.h k'.h ha hb hc hm) fun σ H Q h => chain_t k.g k'.g h
theorem jt_chain (k : CmpOk X op b g2) (k' : CmpOk X op' c g3) (ha : JO X W a o1) (hb : JO X W b o2) (hc : JO X W c o3) (hm : lastMarks [op, op'] [b, c] = false := by with_unfolding_all rfl) : JT X W (.Compare a [op, op'] [b, c] pos) (cB (cChain g2 g3 o1 o2 o3)) :=
  pt_weak (pt_chain k.h k'.h ha hb hc hm) fun σ H Q h => chain_t k.g k'.g (cB_t h)

/-! ### slices -/
/-- a part of a slice -/
inductive Pt where
  | none | e (f : S → Res D)
def Pt.run : Pt → S → Res (Option Int)
  | .none, s => .ok .none s
  | .e f, s => (f s).bind fun d s1 => match d with
    | .int i => .ok (some i) s1
    | _ => .stuck
abbrev JP (X : Cx) (W : WX) (e : Option Expr) (p : Pt) : Prop := PO X e (tR X.K (fun _ _ _ _ _ _ a b => b = a) W p.run)
theorem po_weak {X : Cx} {e : Option Expr} {t t' : TO} (h : PO X e t) (k : ∀ σ H Q, t' σ H Q → t σ H Q) : PO X e t' := ⟨fun pins s σ H Q I q => h.run pins s σ H Q I (k _ _ _ q)⟩
theorem jp_none : JP X W none .none := po_weak po_none fun σ H Q ⟨s, ι, P, Z, hS, hO⟩ => Out.ok hO hS rfl
theorem jp_e {f : S → Res D} (h : JD X W e f) : JP X W (some e) (.e f) := po_weak (po_some h) fun σ H Q ⟨s, ι, P, Z, hS, hO⟩ => tR_bind hS hO fun d s1 v H1 ι1 P1 x1 S1 r1 o1 => by
  cases d with
  | int i => exact ⟨i, by have := r1; unfold RD Rep at this; exact this, Out.ok o1 S1 rfl⟩
  | _ => exact o1.elim
def cutD (xs : List D) (lo hi : Option Int) : List D := (xs.drop (HT.sIx xs.length 0 lo)).take (HT.sIx xs.length xs.length hi - HT.sIx xs.length 0 lo)
def gSl (d : D) (lo hi : Option Int) : Option Wv := match d with
  | .str z => if z.length ≤ sizeLine then some (.d (.str (cutS z lo hi))) else none
  | .lst xs => some (.nw (.lst (cutD xs lo hi)))
  | .scr ns => some (.nw (.lst (cutD (ns.map D.int) lo hi)))
  | d => (tupOf d).map fun xs => .d (if HT.sIx xs.length 0 lo = 0 ∧ HT.sIx xs.length xs.length hi = xs.length then d else .tup (cutD xs lo hi))
def cSl (o : Opd) (lo hi : Pt) : S → Res Wv := fun s => (o.run s).bind fun x s1 => (lo.run s1).bind fun l s2 => (hi.run s2).bind fun u s3 => match o.get x s3 with
  | some d => Res.lift (gSl d l u) s3
  | none => .stuck
def rSlAll (K : PySem.W.Frag) : V → Option Int → Option Int → Hp → VK → Prop := fun x lo hi H Q => rSlS x lo hi H Q ∨ rSlL K x lo hi H Q ∨ rSlA K x lo hi H Q
theorem back_rep {d : D} {zs : List D} {v : V} (e : tupOf d = some zs) (r : View K ι P H d v) : Rep K ι P d v := by cases d <;> first | cases e; done | exact r
theorem good_sl {d : D} {lo hi : Option Int} {w : Wv} {v : V} {Q : VK} (hp : ∀ a o, P a = some o → H a = some o) (e : gSl d lo hi = some w) (r1 : View K ι P H d v) (k : ∀ v' P' H', Done K ι P H w v' P' H' → Q v' H') : rSlAll K v lo hi H Q := by
  have tup : ∀ {xs : List D}, tupOf d = some xs → w = .d (if HT.sIx xs.length 0 lo = 0 ∧ HT.sIx xs.length xs.length hi = xs.length then d else .tup (cutD xs lo hi)) → rSlAll K v lo hi H Q := fun {xs} e1 e2 => by
    subst e2
    obtain ⟨a, vs, rfl, h1, h2⟩ := v_tup hp e1 r1
    refine .inr (.inr ⟨a, vs, rfl, h1, fun c => ?_, fun c p hn => ?_⟩)
    · rw [← h2.length] at c
      rw [if_pos c] at k
      exact k _ _ _ (Done.same hp (back_rep e1 r1))
    · rw [← h2.length] at c
      rw [if_neg c] at k
      have hp' : ∀ a o, P a = some o → upd P p (.tup (cutV vs lo hi)) a = some o := fun a o e => by rw [upd_ne (ne_of_none (hp a o e) hn)]; exact e
      have x : Ext ι P ι (upd P p (.tup (cutV vs lo hi))) := ⟨⟨[], by simp⟩, hp'⟩
      refine k _ _ _ (Done.newD hp hn ?_)
      unfold Rep
      exact ⟨p, _, rfl, upd_same, (h2.cut lo hi).mono x⟩
  cases d with
  | str z =>
    simp only [gSl] at e
    split at e
    · cases e
      rename_i c
      exact .inl ⟨z, v_str r1, c, k _ _ _ (Done.same hp rep_str)⟩
    · cases e
  | lst xs =>
    cases e
    obtain ⟨a, vs, rfl, h1, h2⟩ := v_lst r1
    exact .inr (.inl ⟨a, vs, rfl, SqL.of h1, fun p hn => k _ _ _ (Done.newC hp hn ⟨_, upd_same, h2.cut lo hi⟩)⟩)
  | scr ns =>
    cases e
    have r : Rep K ι P (.scr ns) v := r1
    unfold Rep at r
    obtain ⟨a, rfl, h1⟩ := r
    exact .inr (.inl ⟨a, _, rfl, SqL.mono hp h1, fun p hn => k _ _ _ (Done.newC hp hn ⟨_, upd_same, (Reps.ints ns).cut lo hi⟩)⟩)
  | tup xs => exact tup rfl (by cases e; rfl)
  | kt xs => exact tup rfl (by cases e; rfl)
  | _ => cases e
theorem jw_sl {p2 : Pos} {lo hi : Option Expr} {l u : Pt} (he : JO X W e o) (hl : JP X W lo l) (hu : JP X W hi u) : JW X W (.Subscript e (.Slice lo hi none p2) pos) (cSl o l u) :=
  pe_weak (pe_slice (sl_str.or (sl_list.or sl_tupA)) he hl hu) fun σ H Q ⟨s, ι, P, Z, hS, hO⟩ =>
    tR_bind hS hO fun x s1 v H1 ι1 P1 x1 S1 r1 h1 => tR_bind S1 h1 fun l' s2 l2 H2 ι2 P2 x2 S2 r2 h2 => tR_bind S2 h2 fun u' s3 u2 H3 ι3 P3 x3 S3 r3 h3 => by
      have r2 : l2 = l' := r2
      have r3 : u2 = u' := r3
      subst r2 r3
      try dsimp only at h3
      cases q : o.get x s3 with
      | none => rw [q] at h3; exact h3.elim
      | some d =>
        rw [q] at h3
        try dsimp only at h3
        cases q2 : gSl d l2 u2 with
        | none => rw [q2] at h3; exact h3.elim
        | some w =>
          rw [q2] at h3
          refine good_sl S3.p q2 (RO.view (H0 := H1) (s0 := s1) S3 (r1.mono (x2.trans x3)) q) fun v' P' H' dn => ?_
          obtain ⟨xz, S4, rw4⟩ := S3.done dn
          exact Out.okX h3 xz S4 rw4

/-! ### a new object, shared -/
def shW : Wv → S → Res D
  | .d d, s => .ok d s
  | .nw c, s => .ok (.ref s.st.length) ⟨s.env, s.st ++ [c]⟩
def cSh (f : S → Res Wv) : S → Res D := fun s => (f s).bind shW
end
end PL
end

section
set_option Elab.async false
set_option linter.all false
set_option maxRecDepth 100000
set_option maxHeartbeats 2000000
namespace PL
open PySem PySem.Spec PyProof.Rows L2

section
variable {X : Cx} {W : WX} {e : Expr}
theorem jd_sh {f : S → Res Wv} (h : JW X W e f) : JD X W e (cSh f) := pe_weak h fun σ H Q ⟨s, ι, P, Z, hS, hO⟩ => tR_bind hS hO fun w s1 v H1 ι1 P1 x1 S1 r1 o1 => by
  cases w with
  | d d => exact Out.ok o1 S1 r1
  | nw c =>
    obtain ⟨a, rfl, xz, S2⟩ := S1.push r1
    refine Out.okX o1 xz S2 ?_
    show Rep _ _ _ (.ref s1.st.length) _
    unfold Rep
    exact ⟨a, rfl, by rw [S1.len]; simp⟩
end

/-! ### isinstance -/
def tyTag : D → Option (String ⊕ Str)
  | .non => some (.inl "NoneType")
  | .bl _ => some (.inl "bool")
  | .int _ => some (.inl "int")
  | .str _ => some (.inl "str")
  | .tup _ => some (.inl "tuple")
  | .kt _ => some (.inl "tuple")
  | .lst _ => some (.inl "list")
  | .scr _ => some (.inl "list")
  | .dK _ _ => some (.inl "dict")
  | .ins C _ _ => some (.inr C)
  | _ => none
def types7 : List String := ["NoneType", "bool", "int", "str", "tuple", "list", "dict"]
def isTy (a b : String) : Bool := a == b || (a == "bool" && b == "int")
theorem kit_all : (types7.all fun a => types7.all fun b => decide (b = "NoneType") || decide (kitB a b = some (isTy a b))) = true := by decide +kernel
theorem kit_two {a b : String} (ha : a ∈ types7) (hb : b ∈ types7) (hn : b ≠ "NoneType") : kitB a b = some (isTy a b) := by
  have h := List.all_eq_true.mp (List.all_eq_true.mp kit_all a ha) b hb
  rcases Bool.or_eq_true_iff.mp h with h | h
  · exact absurd (of_decide_eq_true h) hn
  · exact of_decide_eq_true h
/-- what isinstance asks of the own classes -/
def isiB (K : PySem.W.Frag) (Cs : List Str) : Bool := Cs.all fun C =>
  ((He.Fa.cls C).ok K && (He.eqO (PySem.W.findIn K (.ref (He.ga K C)) "__class__") (some (some (.builtin "object.__class__"))) &&
  (He.eqO (PySem.W.specialIn K (.builtin "object.__class__") "__get__") (some (some (.builtin "getset_descriptor.__get__"))) &&
  (decide (PySem.W.takesIn K (.builtin "object.__class__") = some true) && decide (PySem.W.mroIn K (He.ga K C) (.type "object") = some true))))) &&
  ((types7.all fun b => (decide (b = "NoneType") || decide (PySem.W.kitOne K (.ref (He.ga K C)) (.type b) = some false)) && decide (PySem.W.kitOne K (.type b) (.ref (He.ga K C)) = some false)) &&
  Cs.all fun C' => decide (PySem.W.kitOne K (.ref (He.ga K C)) (.ref (He.ga K C')) = some (decide (C = C'))))
structure IsiOk (K : PySem.W.Frag) (Cs : List Str) : Prop where
  cls : ∀ C ∈ Cs, Cls K (He.ga K C)
  ha : ∀ C ∈ Cs, PySem.W.findIn K (.ref (He.ga K C)) "__class__" = some (some (.builtin "object.__class__"))
  hn : ∀ C ∈ Cs, PySem.W.specialIn K (.builtin "object.__class__") "__get__" = some (some (.builtin "getset_descriptor.__get__"))
  ht : ∀ C ∈ Cs, PySem.W.takesIn K (.builtin "object.__class__") = some true
  hm : ∀ C ∈ Cs, PySem.W.mroIn K (He.ga K C) (.type "object") = some true
  ty : ∀ C ∈ Cs, ∀ b ∈ types7, b ≠ "NoneType" → PySem.W.kitOne K (.ref (He.ga K C)) (.type b) = some false
  of : ∀ C ∈ Cs, ∀ b ∈ types7, PySem.W.kitOne K (.type b) (.ref (He.ga K C)) = some false
  two : ∀ C ∈ Cs, ∀ C' ∈ Cs, PySem.W.kitOne K (.ref (He.ga K C)) (.ref (He.ga K C')) = some (decide (C = C'))
theorem isiB_ok {K : PySem.W.Frag} {Cs : List Str} (h : isiB K Cs = true) : IsiOk K Cs := by
  have at_ : ∀ C ∈ Cs, _ := fun C hC => List.all_eq_true.mp h C hC
  refine ⟨fun C hC => ?_, fun C hC => ?_, fun C hC => ?_, fun C hC => ?_, fun C hC => ?_, fun C hC b hb hn => ?_, fun C hC b hb => ?_, fun C hC C' hC' => ?_⟩
  all_goals
    obtain ⟨h1, h2⟩ := He.ba (at_ C hC)
    obtain ⟨c1, h1⟩ := He.ba h1
    obtain ⟨c2, h1⟩ := He.ba h1
    obtain ⟨c3, h1⟩ := He.ba h1
    obtain ⟨c4, c5⟩ := He.ba h1
    obtain ⟨c6, c7⟩ := He.ba h2
  · exact He.cls_ok c1
  · exact He.eqO_ok c2
  · exact He.eqO_ok c3
  · exact of_decide_eq_true c4
  · exact of_decide_eq_true c5
  · obtain ⟨k1, _⟩ := He.ba (List.all_eq_true.mp c6 b hb)
    rcases Bool.or_eq_true_iff.mp k1 with k1 | k1
    · exact absurd (of_decide_eq_true k1) hn
    · exact of_decide_eq_true k1
  · obtain ⟨_, k1⟩ := He.ba (List.all_eq_true.mp c6 b hb)
    exact of_decide_eq_true k1
  · exact of_decide_eq_true (List.all_eq_true.mp c7 C' hC')
def gIsi (Cs : List Str) : List D → Option Wv
  | [x, .ty b] => if b ∈ types7 ∧ b ≠ "NoneType" then (match tyTag x with
    | some (.inl a) => some (.d (.bl (isTy a b)))
    | some (.inr C) => if C ∈ Cs then some (.d (.bl false)) else none
    | none => none) else none
  | [x, .cls C'] => if C' ∈ Cs then (match tyTag x with
    | some (.inl a) => some (.d (.bl false))
    | some (.inr C) => if C ∈ Cs then some (.d (.bl (decide (C = C')))) else none
    | none => none) else none
  | _ => none
section
variable {K : PySem.W.Frag} {ι : List Addr} {P H : Hp} {d : D} {v : V} {vs : List V}
theorem tag_v {Cs : List Str} (ok : IsiOk K Cs) (hp : ∀ a o, P a = some o → H a = some o) {a : String} (e : tyTag d = some (.inl a)) (r : View K ι P H d v) : a ∈ types7 ∧ TyX K H v (.type a) := by
  cases d with
  | non => cases e; rw [v_non r]; exact ⟨by decide, .base .non⟩
  | bl b => cases e; rw [v_bl r]; exact ⟨by decide, .base (.bl _)⟩
  | int b => cases e; rw [v_int r]; exact ⟨by decide, .base (.int _)⟩
  | str b => cases e; rw [v_str r]; exact ⟨by decide, .base (.str _)⟩
  | tup xs =>
    cases e
    have r : Rep K ι P (.tup xs) v := r
    unfold Rep at r
    obtain ⟨a, vs, rfl, h1, _⟩ := r
    exact ⟨by decide, .base (.tup (hp _ _ h1))⟩
  | kt xs =>
    cases e
    obtain ⟨a, vs, rfl, h1, _⟩ := v_tup (d := .kt xs) hp rfl r
    refine ⟨by decide, ?_⟩
    rcases h1 with (h1 | ⟨o, h1⟩) | ⟨o, its, n, h1, h2, _⟩
    · exact .base (.tup h1)
    · exact .fTuple h1
    · exact .kTuple h1 h2
  | lst xs =>
    cases e
    obtain ⟨a, vs, rfl, h1, _⟩ := v_lst r
    exact ⟨by decide, .base (.lst h1)⟩
  | scr ns =>
    cases e
    have r : Rep K ι P (.scr ns) v := r
    unfold Rep at r
    obtain ⟨a, rfl, h1⟩ := r
    refine ⟨by decide, ?_⟩
    rcases SqL.mono hp h1 with (h1 | ⟨o, h1⟩) | ⟨o, its, n, h1, h2, _⟩
    · exact .base (.lst h1)
    · exact .base (.frz h1)
    · exact .kList h1 h2
  | dK ks vs =>
    cases e
    obtain ⟨a, us, rfl, h1, _⟩ := r
    refine ⟨by decide, ?_⟩
    rcases h1 with h1 | ⟨o, h1⟩
    · exact .base (.dK h1)
    · exact .fDict h1
  | _ => cases e
theorem tag_own {Cs : List Str} (ok : IsiOk K Cs) (hp : ∀ a o, P a = some o → H a = some o) {C : Str} (hC : C ∈ Cs) (e : tyTag d = some (.inr C)) (r : View K ι P H d v) : TyX K H v (.ref (He.ga K C)) := by
  cases d with
  | ins C' fs xs =>
    cases e
    obtain ⟨a, dx, vs, rfl, h1, _⟩ := r
    exact .base (.ins h1 (ok.cls C hC) (ok.ha C hC) (ok.hn C hC) (ok.ht C hC) (ok.hm C hC))
  | _ => cases e
theorem v_ty {n : String} (r : View K ι P H (.ty n) v) : v = .ty n := by have r : Rep K ι P (.ty n) v := r; unfold Rep at r; exact r
theorem v_cls {n : Str} (r : View K ι P H (.cls n) v) : v = .ref (He.ga K n) := by have r : Rep K ι P (.cls n) v := r; unfold Rep at r; exact r
theorem good_isi {Cs : List Str} (ok : IsiOk K Cs) : GoodN K (rIsi K) (gIsi Cs) := fun {ι P H ds w vs Q} hp e r k => by
  unfold gIsi at e
  split at e
  · rename_i x b
    obtain ⟨v1, v2, rfl, r1, r2⟩ := views2 r
    split at e
    case isFalse => cases e
    rename_i c
    rw [v_ty r2]
    split at e
    · rename_i a ea
      cases e
      obtain ⟨m, t⟩ := tag_v ok hp ea r1
      exact ⟨v1, _, _, _, _, rfl, .ty b, t, kit_ty (kit_two m c.1 c.2), k _ _ _ (Done.same hp rep_bl)⟩
    · rename_i C ea
      split at e
      · rename_i hC
        cases e
        exact ⟨v1, _, _, _, _, rfl, .ty b, tag_own ok hp hC ea r1, ok.ty C hC b c.1 c.2, k _ _ _ (Done.same hp rep_bl)⟩
      · cases e
    · cases e
  · rename_i x C'
    obtain ⟨v1, v2, rfl, r1, r2⟩ := views2 r
    split at e
    case isFalse => cases e
    rename_i hC'
    rw [v_cls r2]
    split at e
    · rename_i a ea
      cases e
      obtain ⟨m, t⟩ := tag_v ok hp ea r1
      exact ⟨v1, _, _, _, _, rfl, .own _, t, ok.of C' hC' a m, k _ _ _ (Done.same hp rep_bl)⟩
    · rename_i C ea
      split at e
      · rename_i hC
        cases e
        exact ⟨v1, _, _, _, _, rfl, .own _, tag_own ok hp hC ea r1, ok.two C hC C' hC', k _ _ _ (Done.same hp rep_bl)⟩
      · cases e
    · cases e
  · cases e

/-! ### len -/
def gLen : List D → Option Wv
  | [.str z] => if z.length ≤ sizeLine then some (.d (.int z.length)) else none
  | [.dK ks _] => some (.d (.int ks.length))
  | [.dT ks _] => some (.d (.int ks.length))
  | [d] => (seqOf d).map fun xs => .d (.int xs.length)
  | _ => none
def rLenA (K : PySem.W.Frag) : List V → Hp → VK → Prop := fun xs H Q => (∃ x n, xs = [x] ∧ LenV K x H n ∧ Q (.int n) H) ∨ (∃ a kvs, xs = [V.ref a] ∧ Rd H a (.dK kvs) ∧ Q (.int kvs.length) H) ∨ ∃ a kvs, xs = [V.ref a] ∧ Rd H a (.dT kvs) ∧ Q (.int kvs.length) H
theorem call_lenA {X : Cx} : CallR X (.builtin "len") (rLenA X.K) := fun pins s σ H xs us Q I r h => by
  rcases h with h | ⟨a, kvs, rfl, ha, q⟩ | ⟨a, kvs, rfl, ha, q⟩
  · exact call_len pins s σ H xs us Q I r h
  · obtain ⟨u, rfl, ru⟩ := vals1 r
    cases ru
    exact d_len I ha fun t s' I' => ⟨.int kvs.length, H, I', ⟨t, rfl⟩, q⟩
  · obtain ⟨u, rfl, ru⟩ := vals1 r
    cases ru
    obtain ⟨z, hd, ys, rel, dd⟩ := dt_rd I.hok ha
    have hl : kvs.length = ys.length := Paired.length rel
    refine call_len_dictH hd dd (by rw [← hl]; rw [sizeLine_eq] at z; omega) ?_
    rw [← hl]
    exact ⟨.int ((kvs.length : Nat) : Int), H, I.tok _, ⟨_, rfl⟩, q⟩
theorem good_len : GoodN K (rLenA K) gLen := fun {ι P H ds w vs Q} hp e r k => by
  unfold gLen at e
  split at e
  · obtain ⟨v, rfl, r1⟩ := views1 r
    split at e
    · rename_i c
      cases e
      rw [v_str r1]
      exact .inl ⟨_, _, rfl, ⟨c, rfl⟩, k _ _ _ (Done.same hp rep_int)⟩
    · cases e
  · obtain ⟨v, rfl, r1⟩ := views1 r
    cases e
    obtain ⟨a, us, rfl, h1, hl, h2⟩ := r1
    refine .inr (.inl ⟨a, _, rfl, h1, ?_⟩)
    rw [List.length_zip, ← hl, Nat.min_self]
    exact k _ _ _ (Done.same hp rep_int)
  · obtain ⟨v, rfl, r1⟩ := views1 r
    cases e
    obtain ⟨a, us, rfl, h1, hl, h2⟩ := r1
    refine .inr (.inr ⟨a, _, rfl, h1, ?_⟩)
    rw [List.length_zip, ← hl, Nat.min_self]
    exact k _ _ _ (Done.same hp rep_int)
  · obtain ⟨v, rfl, r1⟩ := views1 r
    obtain ⟨xs, e1, rfl⟩ := Option.map_eq_some_iff.mp e
    obtain ⟨a, us, rfl, h1, h2⟩ := v_seq hp e1 r1
    refine .inl ⟨.ref a, us.length, rfl, ?_, ?_⟩
    · rcases h1 with h1 | h1
      · exact .inl ⟨_, h1, rfl⟩
      · exact .inr ⟨_, h1, rfl⟩
    · rw [← h2.length]
      exact k _ _ _ (Done.same hp rep_int)
  · cases e

/-! ### abs, int, min, max, sum -/
def gAbs : List D → Option Wv
  | [.int i] => some (.d (.int (if i < 0 then -i else i)))
  | _ => none
theorem good_abs : GoodN K (fun xs H Q => ∃ i, xs = [V.int i] ∧ Q (.int (if i < 0 then -i else i)) H) gAbs := fun {ι P H ds w vs Q} hp e r k => by
  unfold gAbs at e
  split at e
  · obtain ⟨v, rfl, r1⟩ := views1 r
    cases e
    rw [v_int r1]
    exact ⟨_, rfl, k _ _ _ (Done.same hp rep_int)⟩
  · cases e
def gInt : List D → Option Wv
  | [.int i] => some (.d (.int i))
  | [.bl b] => some (.d (.int (if b then 1 else 0)))
  | _ => none
theorem good_int : GoodN K (fun xs H Q => (∃ i, xs = [V.int i] ∧ Q (.int i) H) ∨ ∃ k, xs = [V.bl k] ∧ Q (.int (if k then 1 else 0)) H) gInt := fun {ι P H ds w vs Q} hp e r k => by
  unfold gInt at e
  split at e
  · obtain ⟨v, rfl, r1⟩ := views1 r
    cases e
    rw [v_int r1]
    exact .inl ⟨_, rfl, k _ _ _ (Done.same hp rep_int)⟩
  · obtain ⟨v, rfl, r1⟩ := views1 r
    cases e
    rw [v_bl r1]
    exact .inr ⟨_, rfl, k _ _ _ (Done.same hp rep_int)⟩
  · cases e
def gMin2 : List D → Option Wv
  | [.int i, .int j] => some (.d (.int (if j < i then j else i)))
  | _ => none
theorem good_min2 : GoodN K (fun xs H Q => ∃ i j, xs = [V.int i, V.int j] ∧ Q (.int (if j < i then j else i)) H) gMin2 := fun {ι P H ds w vs Q} hp e r k => by
  unfold gMin2 at e
  split at e
  · obtain ⟨v, v', rfl, r1, r2⟩ := views2 r
    cases e
    rw [v_int r1, v_int r2]
    exact ⟨_, _, rfl, k _ _ _ (Done.same hp rep_int)⟩
  · cases e
def gMax2 : List D → Option Wv
  | [.int i, .int j] => some (.d (.int (if j > i then j else i)))
  | _ => none
theorem good_max2 : GoodN K (fun xs H Q => ∃ i j, xs = [V.int i, V.int j] ∧ Q (.int (if j > i then j else i)) H) gMax2 := fun {ι P H ds w vs Q} hp e r k => by
  unfold gMax2 at e
  split at e
  · obtain ⟨v, v', rfl, r1, r2⟩ := views2 r
    cases e
    rw [v_int r1, v_int r2]
    exact ⟨_, _, rfl, k _ _ _ (Done.same hp rep_int)⟩
  · cases e
/-- all ints, all bools, all texts -/
def intsOf : List D → Option (List Int)
  | [] => some []
  | .int i :: r => (intsOf r).map (i :: ·)
  | _ => none
def blsOf : List D → Option (List Bool)
  | [] => some []
  | .bl i :: r => (blsOf r).map (i :: ·)
  | _ => none
def strsOf : List D → Option (List Str)
  | [] => some []
  | .str i :: r => (strsOf r).map (i :: ·)
  | _ => none
theorem intsOf_v : ∀ {ds : List D} {ns : List Int} {vs : List V}, intsOf ds = some ns → Reps K ι P ds vs → vs = ns.map V.int
  | [], ns, vs, e, r => by cases e; unfold Reps at r; exact r
  | .int i :: ds, ns, vs, e, r => by
    obtain ⟨ns', e3, rfl⟩ := Option.map_eq_some_iff.mp (show (intsOf ds).map (i :: ·) = some ns from e)
    obtain ⟨v, r', rfl, h1, h2⟩ := r.uncons
    unfold Rep at h1
    subst h1
    rw [intsOf_v e3 h2]; rfl
theorem blsOf_v : ∀ {ds : List D} {ns : List Bool} {vs : List V}, blsOf ds = some ns → Reps K ι P ds vs → vs = ns.map V.bl
  | [], ns, vs, e, r => by cases e; unfold Reps at r; exact r
  | .bl i :: ds, ns, vs, e, r => by
    obtain ⟨ns', e3, rfl⟩ := Option.map_eq_some_iff.mp (show (blsOf ds).map (i :: ·) = some ns from e)
    obtain ⟨v, r', rfl, h1, h2⟩ := r.uncons
    unfold Rep at h1
    subst h1
    rw [blsOf_v e3 h2]; rfl
theorem strsOf_v : ∀ {ds : List D} {ns : List Str} {vs : List V}, strsOf ds = some ns → Reps K ι P ds vs → vs = ns.map V.str
  | [], ns, vs, e, r => by cases e; unfold Reps at r; exact r
  | .str i :: ds, ns, vs, e, r => by
    obtain ⟨ns', e3, rfl⟩ := Option.map_eq_some_iff.mp (show (strsOf ds).map (i :: ·) = some ns from e)
    obtain ⟨v, r', rfl, h1, h2⟩ := r.uncons
    unfold Rep at h1
    subst h1
    rw [strsOf_v e3 h2]; rfl
def lstOf : D → Option (List D)
  | .lst xs => some xs
  | .scr ns => some (ns.map D.int)
  | _ => none
theorem v_lstOf {xs : List D} (hp : ∀ a o, P a = some o → H a = some o) (e : lstOf d = some xs) (r : View K ι P H d v) : ∃ a vs, v = .ref a ∧ SqL K H a vs ∧ Reps K ι P xs vs := by
  cases d with
  | lst ys =>
    cases e
    obtain ⟨a, vs, e, h1, h2⟩ := v_lst r
    exact ⟨a, vs, e, SqL.of h1, h2⟩
  | scr ns =>
    cases e
    have r : Rep K ι P (.scr ns) v := r
    unfold Rep at r
    obtain ⟨a, e, h1⟩ := r
    exact ⟨a, _, e, SqL.mono hp h1, Reps.ints ns⟩
  | _ => cases e
def gSum : List D → Option Wv
  | [d] => (lstOf d).bind fun xs => (intsOf xs).map fun ns => .d (.int ns.sum)
  | _ => none
theorem good_sum : GoodN K (rSum K) gSum := fun {ι P H ds w vs Q} hp e r k => by
  unfold gSum at e
  split at e
  · obtain ⟨v, rfl, r1⟩ := views1 r
    obtain ⟨xs, e1, e⟩ := Option.bind_eq_some_iff.mp e
    obtain ⟨ns, e2, rfl⟩ := Option.map_eq_some_iff.mp e
    obtain ⟨a, us, rfl, h1, h2⟩ := v_lstOf hp e1 r1
    have := intsOf_v e2 h2
    subst this
    exact ⟨a, ns, rfl, h1, k _ _ _ (Done.same hp rep_int)⟩
  · cases e
def gAny : List D → Option Wv
  | [d] => (lstOf d).bind fun xs => (blsOf xs).map fun ns => .d (.bl (ns.any id))
  | _ => none
def gAllB : List D → Option Wv
  | [d] => (lstOf d).bind fun xs => (blsOf xs).map fun ns => .d (.bl (ns.all id))
  | _ => none
theorem good_any : GoodN K (rAny K) gAny := fun {ι P H ds w vs Q} hp e r k => by
  unfold gAny at e
  split at e
  · obtain ⟨v, rfl, r1⟩ := views1 r
    obtain ⟨xs, e1, e⟩ := Option.bind_eq_some_iff.mp e
    obtain ⟨ns, e2, rfl⟩ := Option.map_eq_some_iff.mp e
    obtain ⟨a, us, rfl, h1, h2⟩ := v_lstOf hp e1 r1
    have := blsOf_v e2 h2
    subst this
    exact ⟨a, ns, rfl, h1, k _ _ _ (Done.same hp rep_bl)⟩
  · cases e
theorem good_all : GoodN K (rAll K) gAllB := fun {ι P H ds w vs Q} hp e r k => by
  unfold gAllB at e
  split at e
  · obtain ⟨v, rfl, r1⟩ := views1 r
    obtain ⟨xs, e1, e⟩ := Option.bind_eq_some_iff.mp e
    obtain ⟨ns, e2, rfl⟩ := Option.map_eq_some_iff.mp e
    obtain ⟨a, us, rfl, h1, h2⟩ := v_lstOf hp e1 r1
    have := blsOf_v e2 h2
    subst this
    exact ⟨a, ns, rfl, h1, k _ _ _ (Done.same hp rep_bl)⟩
  · cases e
/-! ### tuple(x), list(x), of a list, a tuple, a text -/
def gTuple : List D → Option Wv
  | [.lst xs] => some (.d (.tup xs))
  | [.scr ns] => some (.d (.tup (ns.map D.int)))
  | [.tup xs] => some (.d (.tup xs))
  | [.kt xs] => some (.d (.kt xs))
  | _ => none
def rTupleOf (K : PySem.W.Frag) : List V → Hp → VK → Prop := fun xs H Q => ∃ p ys, xs = [.ref p] ∧ ((SqL K H p ys ∧ ∀ l, H l = none → Q (.ref l) (upd H l (.tup ys))) ∨ (SqT K H p ys ∧ Q (.ref p) H))
theorem good_tuple : GoodN K (rTupleOf K) gTuple := fun {ι P H ds w vs Q} hp e r k => by
  have new : ∀ {d : D} {xs : List D} {v : V}, lstOf d = some xs → View K ι P H d v → w = .d (.tup xs) → rTupleOf K [v] H Q := fun {d xs v} e1 r1 e2 => by
    subst e2
    obtain ⟨a, us, rfl, h1, h2⟩ := v_lstOf hp e1 r1
    refine ⟨a, us, rfl, .inl ⟨h1, fun p hn => ?_⟩⟩
    have hp' : ∀ a o, P a = some o → upd P p (.tup us) a = some o := fun a o e => by rw [upd_ne (ne_of_none (hp a o e) hn)]; exact e
    have x : Ext ι P ι (upd P p (.tup us)) := ⟨⟨[], by simp⟩, hp'⟩
    refine k _ _ _ (Done.newD hp hn ?_)
    unfold Rep
    exact ⟨p, _, rfl, upd_same, h2.mono x⟩
  unfold gTuple at e
  split at e
  · obtain ⟨v, rfl, r1⟩ := views1 r
    cases e
    exact new rfl r1 rfl
  · obtain ⟨v, rfl, r1⟩ := views1 r
    cases e
    exact new rfl r1 rfl
  · obtain ⟨v, rfl, r1⟩ := views1 r
    cases e
    obtain ⟨a, us, rfl, h1, h2⟩ := v_tup (d := .tup _) hp rfl r1
    exact ⟨a, us, rfl, .inr ⟨h1, k _ _ _ (Done.same hp r1)⟩⟩
  · obtain ⟨v, rfl, r1⟩ := views1 r
    cases e
    obtain ⟨a, us, rfl, h1, h2⟩ := v_tup (d := .kt _) hp rfl r1
    exact ⟨a, us, rfl, .inr ⟨h1, k _ _ _ (Done.same hp r1)⟩⟩
  · cases e
def gList : List D → Option Wv
  | [d] => (seqOf d).map fun xs => .nw (.lst xs)
  | _ => none
theorem good_list : GoodN K (fun xs H Q => ∃ p ys, xs = [V.ref p] ∧ (SqL K H p ys ∨ SqT K H p ys) ∧ ∀ l, H l = none → Q (.ref l) (upd H l (.lst ys))) gList := fun {ι P H ds w vs Q} hp e r k => by
  unfold gList at e
  split at e
  · obtain ⟨v, rfl, r1⟩ := views1 r
    obtain ⟨xs, e1, rfl⟩ := Option.map_eq_some_iff.mp e
    obtain ⟨a, us, rfl, h1, h2⟩ := v_seq hp e1 r1
    exact ⟨a, us, rfl, h1, fun l hn => k _ _ _ (Done.newC hp hn ⟨_, upd_same, h2⟩)⟩
  · cases e
end
end PL
end

section
set_option Elab.async false
set_option linter.all false
set_option maxRecDepth 100000
set_option maxHeartbeats 2000000
namespace PL
open PySem PySem.Spec PyProof.Rows L2

/-! ### displays -/
def cTup (f : S → Res (List D)) : S → Res Wv := fun s => (f s).bind fun ds s1 => if ds.length ≤ sizeLine then .ok (.d (.tup ds)) s1 else .stuck
def cLst (f : S → Res (List D)) : S → Res Wv := fun s => (f s).bind fun ds s1 => if ds.length ≤ sizeLine then .ok (.nw (.lst ds)) s1 else .stuck
section
variable {X : Cx} {W : WX} {e : Expr} {es : List Expr} {pos : Pos} {f : S → Res (List D)}
theorem jw_tup {x1} (h : JL X W es f) : JW X W (.Tuple es x1 pos) (cTup f) := pe_weak (pe_tup h) fun σ H Q ⟨s, ι, P, Z, hS, hO⟩ => tR_bind hS hO fun ds s1 vs H1 ι1 P1 x1 S1 r1 o1 => by
  by_cases c : ds.length ≤ sizeLine
  case neg => rw [if_neg c] at o1; exact o1.elim
  rw [if_pos c] at o1
  have r1 : Reps X.K ι1 P1 ds vs := r1
  refine ⟨by rw [← r1.length]; exact c, fun p hn => ?_⟩
  have hp' : ∀ a o, P1 a = some o → upd P1 p (.tup vs) a = some o := fun a o e => by rw [upd_ne (ne_of_none (S1.p a o e) hn)]; exact e
  have x : Ext ι1 P1 ι1 (upd P1 p (.tup vs)) := ⟨⟨[], by simp⟩, hp'⟩
  obtain ⟨xz, S2, w2⟩ := S1.done (w := .d (.tup ds)) (Done.newD S1.p hn (by unfold Rep; exact ⟨p, _, rfl, upd_same, r1.mono x⟩))
  exact Out.okX o1 xz S2 w2
theorem jw_lst (h : JL X W es f) : JW X W (.List es pos) (cLst f) := pe_weak (pe_lst h) fun σ H Q ⟨s, ι, P, Z, hS, hO⟩ => tR_bind hS hO fun ds s1 vs H1 ι1 P1 x1 S1 r1 o1 => by
  by_cases c : ds.length ≤ sizeLine
  case neg => rw [if_neg c] at o1; exact o1.elim
  rw [if_pos c] at o1
  have r1 : Reps X.K ι1 P1 ds vs := r1
  refine ⟨by rw [← r1.length]; exact c, fun p hn => ?_⟩
  obtain ⟨xz, S2, w2⟩ := S1.done (w := .nw (.lst ds)) (Done.newC S1.p hn ⟨vs, upd_same, r1⟩)
  exact Out.okX o1 xz S2 w2
def cNewK : S → Res Wv := fun s => .ok (.nw (.dK [])) s
def cNewT : S → Res Wv := fun s => .ok (.nw (.dT [])) s
theorem jw_newK : JW X W (.Dict [] [] pos) cNewK := pe_weak pe_dnewK fun σ H Q ⟨s, ι, P, Z, hS, hO⟩ => fun p hn => by
  obtain ⟨xz, S2, w2⟩ := hS.done (w := .nw (.dK [])) (Done.newC hS.p hn ⟨[], upd_same, Reps.nil⟩)
  exact Out.okX hO xz S2 w2
theorem jw_newT : JW X W (.Dict [] [] pos) cNewT := pe_weak pe_dnewT fun σ H Q ⟨s, ι, P, Z, hS, hO⟩ => fun p hn => by
  obtain ⟨xz, S2, w2⟩ := hS.done (w := .nw (.dT [])) (Done.newC hS.p hn ⟨[], upd_same, Reps.nil⟩)
  exact Out.okX hO xz S2 w2
end
/-- what is laid while a display is made -/
theorem SRel.lay {K : PySem.W.Frag} {Z : Hp} {ι : List Addr} {P H : Hp} {s : S} {σ : L2.St} {p : Addr} {o : HO} (h : SRel K Z ι P H s σ) (hn : H p = none) :
    SRel K (upd Z p o) ι P (upd H p o) s σ ∧ P p = none ∧ Z p = none := by
  have e1 : P p = none := by
    cases q : P p with
    | none => rfl
    | some u => rw [h.p p u q] at hn; cases hn
  have e2 : Z p = none := by
    cases q : Z p with
    | none => rfl
    | some u => rw [h.z p u q] at hn; cases hn
  have h1 : SRel K Z ι P (upd H p o) s σ := h.heap fun a u e => upd_some hn e
  refine ⟨h1.hold upd_same e1 (fun hm => ?_) (fun hm => ?_), e1, e2⟩
  · obtain ⟨u, hu⟩ := h.ιH hm
    rw [hu] at hn; cases hn
  · obtain ⟨i, c, f1, f2⟩ := hm
    obtain ⟨b, g1, _, _, _, hc⟩ := (h.env i _ f1).ex
    rw [f2] at g1; cases g1
    obtain ⟨u, hu⟩ := hc.ex
    rw [hu] at hn; cases hn
/-- .. and is then let go, as a new object -/
theorem SRel.laid {K : PySem.W.Frag} {Z : Hp} {ι : List Addr} {P H : Hp} {s : S} {σ : L2.St} {p : Addr} {o o' : HO} {c : Cell} (hz : Z p = none) (hp : P p = none) (h : SRel K (upd Z p o) ι P H s σ) (hc : CellAt K ι P (upd H p o') p c) :
    SRel K Z ι P (upd H p o') s σ ∧ WRep K Z ι P (upd H p o') s σ (.nw c) (.ref p) := by
  have h1 := SRel.rehold (o' := o') hz hp h
  refine ⟨h1.unhold hz, p, rfl, hp, hz, fun hm => ?_, fun hm => ?_, hc⟩
  · have z := h1.ιz p hm; rw [upd_same] at z; cases z
  · obtain ⟨_, z, _⟩ := h1.mineP hm; rw [upd_same] at z; cases z
def cPairs : List ((S → Res D) × (S → Res D)) → S → Res (List (D × D))
  | [], s => .ok [] s
  | (f, g) :: r, s => (f s).bind fun k s1 => (g s1).bind fun v s2 => (cPairs r s2).bind fun ps s3 => .ok ((k, v) :: ps) s3
def RPs (K : PySem.W.Frag) : RT (List (D × D)) (List (V × V)) := fun _ _ ι P _ _ ps vs => Reps K ι P (ps.map (·.1)) (vs.map (·.1)) ∧ Reps K ι P (ps.map (·.2)) (vs.map (·.2))
theorem pairs_t {K : PySem.W.Frag} {W : WX} : ∀ {l : List ((S → Res D) × (S → Res D))} {σ : L2.St} {H : Hp} {Q : List (V × V) → Hp → Prop}, tR K (RPs K) W (cPairs l) σ H Q → tPairs (l.map fun p => (tD K W p.1, tD K W p.2)) σ H Q
  | [], σ, H, Q, ⟨s, ι, P, Z, hS, hO⟩ => Out.ok hO hS ⟨Reps.nil, Reps.nil⟩
  | (f, g) :: r, σ, H, Q, ⟨s, ι, P, Z, hS, hO⟩ => tR_bind hS hO fun k s1 v1 H1 ι1 P1 x1 S1 r1 o1 => tR_bind S1 o1 fun v s2 v2 H2 ι2 P2 x2 S2 r2 o2 =>
    pairs_t (tR_bind S2 o2 fun ps s3 vs H3 ι3 P3 x3 S3 r3 o3 => Out.ok o3 S3 ⟨Reps.cons (Rep.mono (x2.trans x3).x _ _ r1) r3.1, Reps.cons (Rep.mono x3.x _ _ r2) r3.2⟩)
def mergeD (acc : List (Key × D)) (l : List (Key × D)) : List (Key × D) := l.foldl (fun acc kv => putKV acc kv.1 kv.2) acc
theorem merge_zip {K : PySem.W.Frag} {ι : List Addr} {P : Hp} : ∀ {ks : List Key} {ds : List D} {us : List V} {acc : List (Key × D)} {vs : List V}, ks.length = ds.length → Reps K ι P ds us → Reps K ι P (acc.map (·.2)) vs →
    ∃ ws, mergeK ((acc.map (·.1)).zip vs) (ks.zip us) = ((mergeD acc (ks.zip ds)).map (·.1)).zip ws ∧ Reps K ι P ((mergeD acc (ks.zip ds)).map (·.2)) ws
  | [], ds, us, acc, vs, hl, r, ra => ⟨vs, rfl, ra⟩
  | k :: ks, [], us, acc, vs, hl, r, ra => by simp at hl
  | k :: ks, d :: ds, us, acc, vs, hl, r, ra => by
    obtain ⟨u, us, rfl, r1, r2⟩ := r.uncons
    obtain ⟨ws, e1, e2⟩ := putK_zip (k := k) r1 ra
    have hl' : ks.length = ds.length := by simpa using hl
    obtain ⟨ws', e3, e4⟩ := merge_zip (ks := ks) (acc := putKV acc k d) hl' r2 e2
    refine ⟨ws', ?_, e4⟩
    show mergeK (L2.putK ((acc.map (·.1)).zip vs) k u) (ks.zip us) = _
    rw [e1, e3]
    rfl
def cDisp (l : List ((S → Res D) × (S → Res D))) : S → Res Wv := fun s => (cPairs l s).bind fun ps s1 => match keysOf (ps.map (·.1)) with
  | some ks => if ps.length ≤ 15 then .ok (.nw (.dK (mergeD [] (ks.zip (ps.map (·.2)))))) s1 else .stuck
  | none => .stuck
theorem zip_kv : ∀ {ks : List Key} {us : List V} {vs : List (V × V)}, vs.map (·.1) = ks.map kV → vs.map (·.2) = us → vs = (ks.zip us).map fun kv => (kV kv.1, kv.2)
  | [], us, [], _, h => by cases h; rfl
  | [], us, _ :: _, h, _ => by cases h
  | _ :: _, us, [], h, _ => by cases h
  | k :: ks, us, (a, b) :: vs, h, h' => by
    subst h'
    rw [List.map_cons, List.map_cons] at h
    injection h with h1 h2
    rw [List.map_cons, List.zip_cons_cons, List.map_cons, ← zip_kv (ks := ks) h2 rfl]
    have h1 : a = kV k := h1
    rw [h1]
theorem keysOf_len : ∀ {ds : List D} {ks : List Key}, keysOf ds = some ks → ks.length = ds.length
  | [], ks, e => by cases e; rfl
  | d :: ds, ks, e => by
    unfold keysOf at e
    obtain ⟨k, e1, e2⟩ := Option.bind_eq_some_iff.mp e
    obtain ⟨ks', e3, rfl⟩ := Option.map_eq_some_iff.mp e2
    simp [keysOf_len e3]
section
variable {X : Cx} {W : WX} {pos : Pos} {keys : List (Option Expr)} {values : List Expr} {l : List ((S → Res D) × (S → Res D))}
theorem jw_disp (h : PPs X pos keys values (l.map fun p => (tD X.K W p.1, tD X.K W p.2))) (hall : keys.all (·.isSome) = true) (hl : keys.length = values.length) (h0 : keys ≠ []) (h15 : keys.length ≤ 15) : JW X W (.Dict keys values pos) (cDisp l) :=
  pe_weak (pe_disp h hall hl h0 h15) fun σ H Q ⟨s, ι, P, Z, hS, hO⟩ => fun p hn => by
    obtain ⟨T, hp, hz⟩ := hS.lay (o := .dK []) hn
    refine pairs_t ⟨s, ι, P, _, T, ?_⟩
    have hO : Out X.K (RW X.K) W Z ι P σ Q ((cPairs l s).bind fun ps s1 => match keysOf (ps.map (·.1)) with
      | some ks => if ps.length ≤ 15 then .ok (.nw (.dK (mergeD [] (ks.zip (ps.map (·.2)))))) s1 else .stuck
      | none => .stuck) := hO
    cases q : cPairs l s with
    | ok ps s1 =>
      rw [q] at hO
      intro vs H1 ι1 P1 x1 T1 r1
      obtain ⟨r1, r2⟩ := r1
      have hO : Out X.K (RW X.K) W Z ι P σ Q (match keysOf (ps.map (·.1)) with
        | some ks => if ps.length ≤ 15 then .ok (.nw (.dK (mergeD [] (ks.zip (ps.map (·.2)))))) s1 else .stuck
        | none => .stuck) := hO
      cases q2 : keysOf (ps.map (·.1)) with
      | none => rw [q2] at hO; exact hO.elim
      | some ks =>
        rw [q2] at hO
        dsimp only at hO
        by_cases c : ps.length ≤ 15
        case neg => rw [if_neg c] at hO; exact hO.elim
        rw [if_pos c] at hO
        have hk := keysOf_v q2 r1
        have hlen : ks.length = (ps.map (·.2)).length := by rw [keysOf_len q2]; simp
        obtain ⟨ws, e1, e2⟩ := merge_zip (acc := []) (vs := []) hlen r2 Reps.nil
        have hH : H1 p = some (.dK []) := T1.z p _ upd_same
        have hP : P1 p = none := (x1.z p _ upd_same).trans hp
        refine ⟨hH, ks.zip (vs.map (·.2)), zip_kv hk rfl, ?_, ?_⟩
        · rw [List.length_zip, hlen, List.length_map]; omega
        · have e1' : mergeK [] (ks.zip (vs.map (·.2))) = ((mergeD [] (ks.zip (ps.map (·.2)))).map (·.1)).zip ws := e1
          obtain ⟨S2, w2⟩ := SRel.laid (o' := .dK (mergeK [] (ks.zip (vs.map (·.2))))) (c := .dK (mergeD [] (ks.zip (ps.map (·.2))))) hz hP T1 ⟨ws, by rw [upd_same, e1'], e2⟩
          exact hO _ _ ι1 P1 ⟨x1.x, fun b u z => x1.z b u (upd_some hz z)⟩ S2 w2
    | err y s1 =>
      rw [q] at hO
      intro cl d H2 ι2 P2 x2 T2 r2
      exact hO cl d H2 ι2 P2 ⟨x2.x, fun b u z => x2.z b u (upd_some hz z)⟩ (T2.unhold hz) r2
    | stuck => rw [q] at hO; exact hO
end
/-- {(a, ..): v} -/
def tDispT1 (tk tv : TE) : TE := fun σ H Q => ∀ p, H p = none → tk σ (upd H p (.dT [])) fun x H1 => tv σ H1 fun y H2 => H2 p = some (.dT []) ∧ ∃ ks b, x = .ref b ∧ H2 b = some (.tup (ks.map kV)) ∧ Q (.ref p) (upd H2 p (.dT [(ks, y)]))
theorem pe_dispT1 {X : Cx} {pos : Pos} {k v : Expr} {tk tv : TE} (hu : X.A.units < cLine) (hk : PE X k tk) (hv : PE X v tv) : PE X (.Dict [some k] [v] pos) (tDispT1 tk tv) := by
  refine ⟨fun pins s σ H Q I q => ?_⟩
  have hn := I.hok.fresh (Nat.le_refl s.heap.objs.size)
  have I1 := I.laid (a := s.heap.objs.size) (o := .dT []) (h' := s.heap.push { cls := .type "dict", data := .dict #[] }) (t' := s.toks) (fun _ _ q => Heap.get?_push_of_some _ q) (Nat.le_refl _) (dt_empty s.heap I.big)
  rw [arm_eval_Dict, zip_pairTrees [some k] [v] X.env pos rfl rfl, dictDisplay_pairs _ (by intro z; cases z) (by rw [pairTrees_length [some k] [v] X.env pos rfl rfl, List.length_singleton]; decide)]
  refine wpAny_bind (wpAny_standAt (wpAny_bind (wpAny_subDictH (knd := tupleKind (mixKind X.prog X.w)) hu (by rw [pairTrees_length [some k] [v] X.env pos rfl rfl, List.length_singleton]; decide)
    (pairTrees_cons_walk (thn (hk.run pins _ σ _ _ I1 (q _ hn)) fun u s1 ⟨x, H1, I2, rx, q1⟩ => thn (hv.run pins s1 σ H1 _ I2 q1) fun w2 s2 ⟨y, H2, I3, ry, q2⟩ => pairTrees_nil_walk ?_)))))
  obtain ⟨e, ks, b, rfl, eb, q3⟩ := q2
  cases (show u = Value.ref b from rx)
  obtain ⟨z, hd, xs, rel, dd⟩ := dt_of I3.hok e
  cases rel
  refine ⟨[(ks, b, w2)], ⟨rfl, rfl, key_of I3.hok eb, True.intro⟩, dd, fun h' tk dd' hs => wpAny_pure ?_⟩
  refine ⟨.ref s.heap.objs.size, _, ?_, rfl, q3⟩
  obtain ⟨o, es, ep, hq, h2, h3, h4, _, h5⟩ := dd'
  refine d_write I3 (by rw [e]; exact True.intro) hs ⟨o, hq⟩ ⟨by rw [List.length_singleton]; decide, hd, _, .cons ⟨rfl, ?_, ry⟩ .nil, o, es, ep, hq, h2, h3, h4, h5⟩
  rw [upd_ne (ne_of eb e (fun z => nomatch z))]
  exact eb
def cDispT (f g : S → Res D) : S → Res Wv := fun s => (f s).bind fun k s1 => (g s1).bind fun v s2 => match tkeyOf k with
  | some ks => .ok (.nw (.dT [(ks, v)])) s2
  | none => .stuck
section
variable {X : Cx} {W : WX} {pos : Pos} {k v : Expr} {f g : S → Res D}
theorem jw_dispT (hu : X.A.units < cLine) (hk : JD X W k f) (hv : JD X W v g) : JW X W (.Dict [some k] [v] pos) (cDispT f g) :=
  pe_weak (pe_dispT1 hu hk hv) fun σ H Q ⟨s, ι, P, Z, hS, hO⟩ => fun p hn => by
    obtain ⟨T, hp, hz⟩ := hS.lay (o := .dT []) hn
    have errs : ∀ {y : Exc} {s1 : S}, ErrOK X.K W Z ι P σ y s1 → ErrOK X.K W (upd Z p (.dT [])) ι P σ y s1 := fun {y s1} h cl d H2 ι2 P2 x2 T2 r2 =>
      h cl d H2 ι2 P2 ⟨x2.x, fun b u z => x2.z b u (upd_some hz z)⟩ (T2.unhold hz) r2
    refine ⟨s, ι, P, _, T, ?_⟩
    have hO : Out X.K (RW X.K) W Z ι P σ Q ((f s).bind fun k s1 => (g s1).bind fun v s2 => match tkeyOf k with
      | some ks => .ok (.nw (.dT [(ks, v)])) s2
      | none => .stuck) := hO
    cases q : f s with
    | stuck => rw [q] at hO; exact hO
    | err y s1 => rw [q] at hO; exact errs hO
    | ok kd s1 =>
      rw [q] at hO
      intro x H1 ι1 P1 x1 T1 r1
      refine ⟨s1, ι1, P1, _, T1, ?_⟩
      have hO : Out X.K (RW X.K) W Z ι P σ Q ((g s1).bind fun v s2 => match tkeyOf kd with
        | some ks => .ok (.nw (.dT [(ks, v)])) s2
        | none => .stuck) := hO
      have xz : XZ Z ι P ι1 P1 := ⟨x1.x, fun b u z => x1.z b u (upd_some hz z)⟩
      cases q2 : g s1 with
      | stuck => rw [q2] at hO; exact hO
      | err y s2 =>
        rw [q2] at hO
        intro cl d H2 ι2 P2 x2 T2 r2
        exact hO cl d H2 ι2 P2 (xz.trans ⟨x2.x, fun b u z => x2.z b u (upd_some hz z)⟩) (T2.unhold hz) r2
      | ok vd s2 =>
        rw [q2] at hO
        intro y H2 ι2 P2 x2 T2 r2
        have hO : Out X.K (RW X.K) W Z ι P σ Q (match tkeyOf kd with
          | some ks => .ok (.nw (.dT [(ks, vd)])) s2
          | none => .stuck) := hO
        have xz2 : XZ Z ι P ι2 P2 := xz.trans ⟨x2.x, fun b u z => x2.z b u (upd_some hz z)⟩
        cases q3 : tkeyOf kd with
        | none => rw [q3] at hO; exact hO.elim
        | some ks =>
          cases kd with
          | tup ds =>
            have r1 : Rep X.K ι2 P2 (.tup ds) x := Rep.mono x2.x _ _ r1
            unfold Rep at r1
            obtain ⟨b, ws, rfl, ht, hr⟩ := r1
            have hws := keysOf_v (show keysOf ds = some ks from q3) hr
            subst hws
            have hH : H2 p = some (.dT []) := T2.z p _ upd_same
            have hP : P2 p = none := (x2.z p _ upd_same).trans ((x1.z p _ upd_same).trans hp)
            refine ⟨hH, ks, b, rfl, T2.p _ _ ht, ?_⟩
            obtain ⟨S3, w3⟩ := SRel.laid (o' := .dT [(ks, y)]) (c := .dT [(ks, vd)]) hz hP T2 ⟨[y], upd_same, Reps.one r2⟩
            have q3' : tkeyOf (.tup ds) = some ks := q3
            have hO : Out X.K (RW X.K) W Z ι P σ Q (match tkeyOf (.tup ds) with
              | some ks => .ok (.nw (.dT [(ks, vd)])) s2
              | none => .stuck) := hO
            rw [q3'] at hO
            exact hO _ _ ι2 P2 xz2 S3 w3
          | _ => cases q3
end

/-! ### dict(pairs) -/
def pairsOf : List D → Option (List (Key × D))
  | [] => some []
  | d :: r => (tupOf d).bind fun xs => match xs with
    | [k, v] => (keyOf k).bind fun k => (pairsOf r).map ((k, v) :: ·)
    | _ => none
def gDict : List D → Option Wv
  | [d] => (lstOf d).bind fun xs => (pairsOf xs).map fun ps => .nw (.dK (mergeD [] ps))
  | _ => none
theorem pairsOf_v {K : PySem.W.Frag} {ι : List Addr} {P H : Hp} (hp : ∀ a o, P a = some o → H a = some o) : ∀ {xs : List D} {ps : List (Key × D)} {vs : List V}, pairsOf xs = some ps → Reps K ι P xs vs →
    ∃ as us, vs = as.map V.ref ∧ Paired (fun p (kv : Key × V) => SqT K H p [kV kv.1, kv.2]) as ((ps.map (·.1)).zip us) ∧ Reps K ι P (ps.map (·.2)) us
  | [], ps, vs, e, r => by
    cases e
    unfold Reps at r
    subst r
    exact ⟨[], [], rfl, .nil, Reps.nil⟩
  | d :: xs, ps, vs, e, r => by
    unfold pairsOf at e
    obtain ⟨ys, e1, e⟩ := Option.bind_eq_some_iff.mp e
    obtain ⟨v, vr, rfl, r1, r2⟩ := r.uncons
    split at e
    case h_2 => cases e
    rename_i k y
    obtain ⟨key, e2, e⟩ := Option.bind_eq_some_iff.mp e
    obtain ⟨ps', e3, rfl⟩ := Option.map_eq_some_iff.mp e
    obtain ⟨as, us, rfl, pr, rr⟩ := pairsOf_v hp e3 r2
    have vw : View K ι P H d v := Rep.view hp r1
    obtain ⟨a, ws, rfl, h1, h2⟩ := v_tup hp e1 vw
    obtain ⟨w1, wr, rfl, g1, g2⟩ := h2.uncons
    obtain ⟨w2, wr2, rfl, g3, g4⟩ := g2.uncons
    unfold Reps at g4
    subst g4
    have := keyOf_v e2 g1
    subst this
    exact ⟨a :: as, w2 :: us, rfl, .cons h1 pr, Reps.cons g3 rr⟩
theorem zip_unzip {α β : Type} (l : List (α × β)) : (l.map (·.1)).zip (l.map (·.2)) = l := by
  induction l with
  | nil => rfl
  | cons p l ih => rw [List.map_cons, List.map_cons, List.zip_cons_cons, ih]
theorem good_dict {K : PySem.W.Frag} : GoodN K (fun xs H Q => ∃ (a : Addr) (ps : List Addr) (kvs : List (Key × V)), xs = [V.ref a] ∧ SqL K H a (ps.map V.ref) ∧ Paired (fun p kv => SqT K H p [kV kv.1, kv.2]) ps kvs ∧
    ∀ p, H p = none → Q (.ref p) (upd H p (.dK (mergeK [] kvs)))) gDict := fun {ι P H ds w vs Q} hp e r k => by
  unfold gDict at e
  split at e
  · obtain ⟨v, rfl, r1⟩ := views1 r
    obtain ⟨xs, e1, e⟩ := Option.bind_eq_some_iff.mp e
    obtain ⟨ps, e2, rfl⟩ := Option.map_eq_some_iff.mp e
    obtain ⟨a, us, rfl, h1, h2⟩ := v_lstOf hp e1 r1
    obtain ⟨as, ws, rfl, pr, rr⟩ := pairsOf_v hp e2 h2
    refine ⟨a, as, _, rfl, h1, pr, fun p hn => ?_⟩
    obtain ⟨zs, e3, e4⟩ := merge_zip (acc := []) (vs := []) (ks := ps.map (·.1)) (by simp) rr Reps.nil
    rw [zip_unzip] at e3 e4
    have e3' : mergeK [] ((ps.map (·.1)).zip ws) = ((mergeD [] ps).map (·.1)).zip zs := e3
    exact k _ _ _ (Done.newC hp hn ⟨zs, by rw [upd_same, e3'], e4⟩)
  · cases e

/-! ### texts -/
def gJoin : D → List D → Option Wv
  | .str a, [d] => (seqOf d).bind fun xs => (strsOf xs).bind fun ys => if (ys.map (·.length)).sum + ys.length * a.length ≤ 16777216 then some (.d (.str (Txt.join a ys))) else none
  | _, _ => none
def gSIndex : D → List D → Option Wv
  | .str a, [.str b] => match Builtin.Str.occurrences a b 0 a.length 1 with
    | i :: _ => some (.d (.int (i : Nat)))
    | [] => none
  | _, _ => none
def gSCount : D → List D → Option Wv
  | .str a, [.str b] => some (.d (.int (Txt.count a b)))
  | _, _ => none
section
variable {K : PySem.W.Frag}
theorem good_join : GoodM K (fun x xs H Q => ∃ a p, ∃ ys : List Str, x = .str a ∧ xs = [V.ref p] ∧ (SqL K H p (ys.map V.str) ∨ SqT K H p (ys.map V.str)) ∧
    (ys.map (·.length)).sum + ys.length * a.length ≤ 16777216 ∧ Q (.str (Txt.join a ys)) H) gJoin := fun {ι P H d ds w v vs Q} hp e r1 r k => by
  unfold gJoin at e
  split at e
  · obtain ⟨v2, rfl, r2⟩ := views1 r
    obtain ⟨xs, e1, e⟩ := Option.bind_eq_some_iff.mp e
    obtain ⟨ys, e2, e⟩ := Option.bind_eq_some_iff.mp e
    split at e
    case isFalse => cases e
    rename_i c
    cases e
    obtain ⟨a, us, rfl, h1, h2⟩ := v_seq hp e1 r2
    have := strsOf_v e2 h2
    subst this
    rw [v_str r1]
    exact ⟨_, a, ys, rfl, rfl, h1, c, k _ _ _ (Done.same hp rep_str)⟩
  · cases e
theorem good_sindex : GoodM K (fun x xs H Q => ∃ a b i rest, x = .str a ∧ xs = [V.str b] ∧ Builtin.Str.occurrences a b 0 a.length 1 = i :: rest ∧ Q (.int (i : Nat)) H) gSIndex := fun {ι P H d ds w v vs Q} hp e r1 r k => by
  unfold gSIndex at e
  split at e
  · obtain ⟨v2, rfl, r2⟩ := views1 r
    split at e
    · rename_i i rest eo
      cases e
      rw [v_str r1, v_str r2]
      exact ⟨_, _, i, rest, rfl, rfl, eo, k _ _ _ (Done.same hp rep_int)⟩
    · cases e
  · cases e
theorem good_scount : GoodM K (fun x xs H Q => ∃ a b, x = .str a ∧ xs = [V.str b] ∧ Q (.int (Txt.count a b)) H) gSCount := fun {ι P H d ds w v vs Q} hp e r1 r k => by
  unfold gSCount at e
  split at e
  · obtain ⟨v2, rfl, r2⟩ := views1 r
    cases e
    rw [v_str r1, v_str r2]
    exact ⟨_, _, rfl, rfl, k _ _ _ (Done.same hp rep_int)⟩
  · cases e
/-- tuple(text) -/
def gTupleS : List D → Option Wv
  | [.str z] => if z.length ≤ sizeLine then some (.d (.tup (signs z))) else none
  | ds => gTuple ds
def rTupleS : List V → Hp → VK → Prop := fun xs H Q => ∃ z : Str, xs = [.str z] ∧ z.length ≤ sizeLine ∧ ∀ l, H l = none → Q (.ref l) (upd H l (.tup (z.cps.toList.map fun c => V.str ⟨#[c]⟩)))
theorem vals_signs {cs : List Nat} : ∀ {us : List Value}, us.length = cs.length → (∀ (j : Nat) v, us[j]? = some v → ∃ c t, cs[j]? = some c ∧ v = .str ⟨#[c]⟩ t) → Vals (cs.map fun c => V.str ⟨#[c]⟩) us := by
  induction cs with
  | nil => intro us h _; rw [List.length_nil, List.length_eq_zero_iff] at h; subst h; exact .nil
  | cons c cs ih =>
    intro us h k
    cases us with
    | nil => cases h
    | cons u us =>
      obtain ⟨c', t, e1, e2⟩ := k 0 u rfl
      cases e1
      subst e2
      exact .cons ⟨t, rfl⟩ (ih (by simpa using h) fun j v e => k (j + 1) v (by simpa using e))
theorem call_tupleS {X : Cx} (hc : X.calm = true) : CallR X (.type "tuple") rTupleS := fun pins s σ H xs us Q I r h => by
  obtain ⟨z, rfl, hz, q⟩ := h
  obtain ⟨u, rfl, t, rfl⟩ := vals1 r
  refine PySem.call_tuple_str (I.ok.hd hc) z t (fun h' tk acc hk hacc => ?_) hz
  have I1 : Inv X pins σ H { s with heap := h', toks := tk } := I.kept (t' := tk) hk
  have hv : Vals (z.cps.toList.map fun c => V.str ⟨#[c]⟩) acc.toList := vals_signs (by simp [hacc.1]) fun j v e => by
    obtain ⟨c, t, e1, e2⟩ := hacc.2 j v (by simpa using e)
    exact ⟨c, t, by simpa using e1, e2⟩
  have I2 : Inv X pins σ (upd H h'.objs.size (.tup (z.cps.toList.map fun c => V.str ⟨#[c]⟩))) { s with heap := h'.push { cls := .type "tuple", data := .seq acc }, toks := tk } :=
    I1.laid (t' := tk) (fun b o e => Heap.get?_push_of_some _ e) (Nat.le_refl _) (show ObjOk X.prog X.w _ _ _ (.tup _) from ⟨by rw [List.length_map]; exact hz, acc.toList, hv, by simpa using IsTup.new _ _⟩)
  exact ⟨.ref h'.objs.size, _, I2, rfl, q _ (I1.hok.fresh (Nat.le_refl _))⟩
theorem good_tupleS : GoodN K (fun xs H Q => rTupleS xs H Q ∨ rTupleOf K xs H Q) gTupleS := fun {ι P H ds w vs Q} hp e r k => by
  unfold gTupleS at e
  split at e
  · obtain ⟨v, rfl, r1⟩ := views1 r
    split at e
    case isFalse => cases e
    rename_i z c
    cases e
    rw [v_str r1]
    refine .inl ⟨_, rfl, c, fun p hn => ?_⟩
    refine k _ _ _ (Done.newD hp hn ?_)
    unfold Rep
    refine ⟨p, _, rfl, upd_same, ?_⟩
    have := Reps.strs (K := K) (ι := ι) (P := upd P p (.tup (z.cps.toList.map fun c => V.str ⟨#[c]⟩))) (z.cps.toList.map fun c => (⟨#[c]⟩ : Str))
    rw [List.map_map, List.map_map] at this
    exact this
  · exact .inr (good_tuple hp e r k)
end
end PL
end

section
set_option Elab.async false
set_option linter.all false
set_option maxRecDepth 100000
set_option maxHeartbeats 2000000
namespace PL
open PySem PySem.Spec PyProof.Rows L2

/-! ### names of the module -/
section
variable {X : Cx} {W : WX} {x : Str} {pos : Pos}
theorem jd_gint {i : Int} (hg : Gl X x) (hm : ∃ t, X.mg x = some (.int i t)) (hd : (x == ("__debug__" : Str)) = false := by decide) : JD X W (.Name x pos) (cC (.int i)) := by
  obtain ⟨t, hm⟩ := hm
  exact jd_c (v := .int i) (pe_glob hg hm ⟨t, rfl⟩ hd) fun _ _ => by unfold Rep; rfl
theorem jd_gstr {z : Str} (hg : Gl X x) (hm : ∃ t, X.mg x = some (.str z t)) (hd : (x == ("__debug__" : Str)) = false := by decide) : JD X W (.Name x pos) (cC (.str z)) := by
  obtain ⟨t, hm⟩ := hm
  exact jd_c (v := .str z) (pe_glob hg hm ⟨t, rfl⟩ hd) fun _ _ => by unfold Rep; rfl
theorem jd_gcls {C : Str} (hg : Gl X x) (hm : X.mg x = some (.ref (He.ga X.K C))) (hd : (x == ("__debug__" : Str)) = false := by decide) : JD X W (.Name x pos) (cC (.cls C)) :=
  jd_c (v := .ref (He.ga X.K C)) (pe_glob hg hm rfl hd) fun _ _ => by unfold Rep; rfl
theorem jd_ty {n : String} (hg : Gl X x) (hm : X.mg x = none) (hv : bootBuiltins x = some (.type n)) (hn : x ≠ "__name__" := by decide) (hd : (x == ("__debug__" : Str)) = false := by decide) : JD X W (.Name x pos) (cC (.ty n)) :=
  jd_c (v := .ty n) (pe_bltn hg hm hv rfl hn hd) fun _ _ => by unfold Rep; rfl
end

/-! ### lists changed -/
def gAppend : Cell → List D → Option (Cell × D)
  | .lst xs, [d] => if xs.length < sizeLine then some (.lst (xs ++ [d]), .non) else none
  | _, _ => none
def gExtend : Cell → List D → Option (Cell × D)
  | .lst xs, [.lst ys] => if xs.length + ys.length ≤ sizeLine then some (.lst (xs ++ ys), .non) else none
  | _, _ => none
def gPop : Cell → List D → Option (Cell × D)
  | .lst xs, [] => (xs[xs.length - 1]?).map fun d => (.lst xs.dropLast, d)
  | _, _ => none
def gPopAt : Cell → List D → Option (Cell × D)
  | .lst xs, [.int i] => if -(2 ^ 63) ≤ i ∧ i < 2 ^ 63 then (seqIndex? i xs.length).bind fun k => (xs[k]?).map fun d => (.lst (xs.eraseIdx k), d) else none
  | _, _ => none
theorem dropLast_erase {α : Type} (l : List α) : l.dropLast = l.eraseIdx (l.length - 1) := by
  induction l with
  | nil => rfl
  | cons a l ih =>
    cases l with
    | nil => rfl
    | cons b l => simp [List.dropLast, ih]
section
variable {K : PySem.W.Frag}
theorem good_append : GoodMut K rAppend gAppend := fun {ι P H c c' ds vs a d Q} hp e hc r k => by
  unfold gAppend at e
  split at e
  case h_2 => cases e
  rename_i xs y
  split at e
  case isFalse => cases e
  rename_i hl
  cases e
  obtain ⟨us, h1, h2⟩ := hc
  obtain ⟨v, r', rfl, r1, r2⟩ := r.uncons
  unfold Reps at r2
  subst r2
  exact ⟨a, us, v, rfl, rfl, h1, by rw [← h2.length]; exact hl, k _ _ ⟨_, upd_same, Reps.app h2 (Reps.one r1)⟩ rep_non⟩
theorem good_extend : GoodMut K rExtend gExtend := fun {ι P H c c' ds vs a d Q} hp e hc r k => by
  unfold gExtend at e
  split at e
  case h_2 => cases e
  rename_i xs ys
  split at e
  case isFalse => cases e
  rename_i hl
  cases e
  obtain ⟨us, h1, h2⟩ := hc
  obtain ⟨v, r', rfl, r1, r2⟩ := r.uncons
  unfold Reps at r2
  subst r2
  unfold Rep at r1
  obtain ⟨b, ws, rfl, h3, h4⟩ := r1
  exact ⟨a, b, us, ws, rfl, rfl, h1, hp _ _ h3, by rw [← h2.length, ← h4.length]; exact hl, k _ _ ⟨_, upd_same, Reps.app h2 h4⟩ rep_non⟩
theorem good_pop : GoodMut K rPop gPop := fun {ι P H c c' ds vs a d Q} hp e hc r k => by
  unfold gPop at e
  split at e
  case h_2 => cases e
  rename_i xs
  obtain ⟨y, e1, e2⟩ := Option.map_eq_some_iff.mp e
  cases e2
  obtain ⟨us, h1, h2⟩ := hc
  unfold Reps at r
  subst r
  obtain ⟨v, hv, rv⟩ := h2.get e1
  refine ⟨a, us, v, rfl, rfl, h1, by rw [← h2.length]; exact hv, k _ _ ⟨us.dropLast, upd_same, ?_⟩ rv⟩
  rw [dropLast_erase, dropLast_erase, ← h2.length]
  exact h2.eraseIdx _
theorem good_popAt : GoodMut K rPopAt gPopAt := fun {ι P H c c' ds vs a d Q} hp e hc r k => by
  unfold gPopAt at e
  split at e
  case h_2 => cases e
  rename_i xs i
  split at e
  case isFalse => cases e
  rename_i hl
  obtain ⟨j, e0, e⟩ := Option.bind_eq_some_iff.mp e
  obtain ⟨y, e1, e2⟩ := Option.map_eq_some_iff.mp e
  cases e2
  obtain ⟨us, h1, h2⟩ := hc
  obtain ⟨v, r', rfl, r1, r2⟩ := r.uncons
  unfold Reps at r2
  subst r2
  unfold Rep at r1
  subst r1
  obtain ⟨v, hv, rv⟩ := h2.get e1
  exact ⟨a, us, i, j, v, rfl, rfl, h1, hl.1, hl.2, by rw [← h2.length]; exact e0, hv, k _ _ ⟨us.eraseIdx j, upd_same, h2.eraseIdx _⟩ rv⟩
/-- xs.index(x), flat items -/
def idxF (x : D) : List D → Nat → Option Nat
  | [], _ => none
  | y :: r, n => if eqF y x = true then some n else idxF x r (n + 1)
def gIndex : D → List D → Option Wv := fun d ds => match ds with
  | [x] => (lstOf d).bind fun xs => if flatD x = true ∧ xs.all flatD = true then (idxF x xs 0).map fun j => .d (.int (j : Nat)) else none
  | _ => none
theorem idxF_v {ι : List Addr} {P : Hp} {x : D} {v : V} (g : flatD x = true) (q : Rep K ι P x v) : ∀ {xs : List D} {vs : List V} {n j : Nat}, xs.all flatD = true → Reps K ι P xs vs → idxF x xs n = some j →
    n ≤ j ∧ ∃ z, vs[j - n]? = some z ∧ eqV z v = true ∧ ∀ (m : Nat) (z' : V), m < j - n → vs[m]? = some z' → eqV z' v = false
  | [], vs, n, j, _, r, e => by cases e
  | d :: ds, vs, n, j, f, r, e => by
    obtain ⟨u, t, rfl, h1, h2⟩ := r.uncons
    rw [List.all_cons] at f
    obtain ⟨f1, f2⟩ := Bool.and_eq_true_iff.mp f
    have hq := eqF_v f1 g h1 q
    unfold idxF at e
    by_cases c : eqF d x = true
    · rw [if_pos c] at e
      cases e
      exact ⟨Nat.le_refl _, u, by simp, hq.trans c, fun m z' hm _ => by omega⟩
    · rw [if_neg c] at e
      obtain ⟨k1, z, k2, k3, k4⟩ := idxF_v g q f2 h2 e
      refine ⟨by omega, z, ?_, k3, fun m z' hm hz => ?_⟩
      · rw [show j - n = (j - (n + 1)) + 1 by omega, List.getElem?_cons_succ]; exact k2
      · cases m with
        | zero =>
          cases hz
          rw [hq]; exact Bool.eq_false_iff.mpr c
        | succ m => exact k4 m z' (by omega) (by simpa using hz)
theorem good_index : GoodM K (rIndex K) gIndex := fun {ι P H d ds w v vs Q} hp e r1 r k => by
  unfold gIndex at e
  split at e
  case h_2 => cases e
  rename_i x
  obtain ⟨v2, rfl, r2⟩ := views1 r
  obtain ⟨xs, e1, e⟩ := Option.bind_eq_some_iff.mp e
  split at e
  case isFalse => cases e
  rename_i c
  obtain ⟨j, e2, rfl⟩ := Option.map_eq_some_iff.mp e
  obtain ⟨a, us, rfl, h1, h2⟩ := v_lstOf hp e1 r1
  have h3 := flat_rep c.1 r2
  obtain ⟨a1, a2⟩ := any_v c.1 h3 c.2 h2
  obtain ⟨_, z, k2, k3, k4⟩ := idxF_v c.1 h3 c.2 h2 e2
  exact ⟨a, us, v2, j, z, rfl, rfl, h1, flat_v c.1 h3, a1, by simpa using k2, k3, fun m z' hm hz => k4 m z' (by omega) hz, k _ _ _ (Done.same hp rep_int)⟩
end

/-! ### x op= e -/
def sAug (i : Nat) (g : D → D → Option Wv) (f : S → Res D) : S → Fl := fun s => match s.env[i]? with
  | some (.d d) => (f s).fl fun y s1 => match g d y with
    | some w => .nx (setW i w s1)
    | none => .stuck
  | _ => .stuck
section
variable {X : Cx} {W : WX} {e : Expr} {x : Str} {pos pos' : Pos} {i : Nat} {f : S → Res D} {g : D → D → Option Wv} {r : R2} {op : Operator}
theorem js_aug (hN : X.N.Nodup) (hi : X.N[i]? = some x) (hx : Loc X.env.scope x) (ho : OpR X (inplaceOp op) r) (G : Good2 X.K r g) (he : JD X W e f)
    (hf : X.fn x = true ∨ X.env.scope.names.lookup x = some .local := by first | exact .inl rfl | exact .inr rfl | assumption) : JS X W (.AugAssign (.Name x pos') op e pos) (sAug i g f) :=
  ps_weak (ps_aug hN hi hx he (ti := r) ho hf) fun A σ H ⟨s, ι, P, Z, hS, hO⟩ => by
    unfold sAug at hO
    cases q : s.env[i]? with
    | none => rw [q] at hO; exact hO.elim
    | some sl =>
      rw [q] at hO
      cases sl with
      | no => exact hO.elim
      | own c => exact hO.elim
      | d d =>
        obtain ⟨v, e1, rv⟩ := hS.env i _ q
        refine ⟨v, e1, tR_fl hS hO fun y s1 u H1 ι1 P1 x1 S1 r1 o1 => ?_⟩
        cases q2 : g d y with
        | none => rw [q2] at o1; exact o1.elim
        | some w =>
          rw [q2] at o1
          refine G S1.p q2 (Rep.view S1.p (Rep.mono x1.x _ _ rv)) (Rep.view S1.p r1) fun v' P' H' dn => ?_
          obtain ⟨xz, S2, w2⟩ := S1.done dn
          exact OutS.nxX o1 xz (S2.setW w2)
/-- ints, texts -/
def gAdd0 : D → D → Option Wv
  | .int i, .int j => some (.d (.int (i + j)))
  | .str x, .str y => if x.length + y.length ≤ sizeLine then some (.d (.str (x ++ y))) else none
  | _, _ => none
theorem good_add0 {K : PySem.W.Frag} : Good2 K (fun x y H Q => rI0 (fun i j => .int (i + j)) x y H Q ∨ ∃ i j, x = .str i ∧ y = .str j ∧ i.length + j.length ≤ sizeLine ∧ Q (.str (i ++ j)) H) gAdd0 := fun {ι P H d1 d2 w v1 v2 Q} hp e r1 r2 k => by
  unfold gAdd0 at e
  split at e
  · cases e
    exact .inl ⟨_, _, v_int r1, v_int r2, k _ _ _ (Done.same hp rep_int)⟩
  · split at e
    case isFalse => cases e
    rename_i c
    cases e
    exact .inr ⟨_, _, v_str r1, v_str r2, c, k _ _ _ (Done.same hp rep_str)⟩
  · cases e
theorem js_augAdd (hN : X.N.Nodup) (hi : X.N[i]? = some x) (hx : Loc X.env.scope x) (he : JD X W e f)
    (hf : X.fn x = true ∨ X.env.scope.names.lookup x = some .local := by first | exact .inl rfl | exact .inr rfl | assumption) : JS X W (.AugAssign (.Name x pos') .Add e pos) (sAug i gAdd0 f) :=
  js_aug hN hi hx (iop_add.or iop_add_str) good_add0 he hf
theorem js_augSub (hN : X.N.Nodup) (hi : X.N[i]? = some x) (hx : Loc X.env.scope x) (he : JD X W e f)
    (hf : X.fn x = true ∨ X.env.scope.names.lookup x = some .local := by first | exact .inl rfl | exact .inr rfl | assumption) : JS X W (.AugAssign (.Name x pos') .Sub e pos) (sAug i (gI2 CYes fun i j => i - j) f) :=
  js_aug hN hi hx iop_sub (good_I0 fun _ _ => rfl) he hf
end

/-! ### a dict is locked while it is walked -/
def Dc : HO → Prop
  | .dK _ => True
  | .dT _ => True
  | _ => False
def NF : HO → Prop
  | .frz _ _ => False
  | _ => True
theorem Dc.nf {u : HO} (h : Dc u) : NF u := by cases u <;> first | trivial | exact h
theorem Dc.mu {u : HO} (h : Dc u) : Mut (some u) := by cases u <;> first | trivial | exact h.elim
structure Sim (P P' : Hp) : Prop where
  g : ∀ a u, ¬ Dc u → NF u → P a = some u → P' a = some u
  r : ∀ a u, NF u → L2.Rd P a u → L2.Rd P' a u
section
variable {K : PySem.W.Frag} {ι : List Addr} {P P' : Hp} {d : Addr} {u : HO} {od : Obj}
theorem Sim.lock (e : P d = some u) (dc : Dc u) : Sim P (upd P d (.frz od u)) where
  g := fun a v nd nf h => by
    rw [upd_ne (fun z => by subst z; rw [e] at h; cases h; exact nd dc)]; exact h
  r := fun a v nf h => by
    by_cases q : a = d
    · subst q
      rcases h with h | ⟨o, h⟩
      · rw [e] at h; cases h
        exact .inr ⟨od, upd_same⟩
      · rw [e] at h; cases h; exact dc.elim
    · rcases h with h | ⟨o, h⟩
      · exact .inl (by rw [upd_ne q]; exact h)
      · exact .inr ⟨o, by rw [upd_ne q]; exact h⟩
theorem Sim.unlock (e : P d = some (.frz od u)) : Sim P (upd P d u) where
  g := fun a v nd nf h => by
    rw [upd_ne (fun z => by subst z; rw [e] at h; cases h; exact nf)]; exact h
  r := fun a v nf h => by
    by_cases q : a = d
    · subst q
      rcases h with h | ⟨o, h⟩
      · rw [e] at h; cases h; exact nf.elim
      · rw [e] at h; cases h
        exact .inl upd_same
    · rcases h with h | ⟨o, h⟩
      · exact .inl (by rw [upd_ne q]; exact h)
      · exact .inr ⟨o, by rw [upd_ne q]; exact h⟩
theorem SqT.sim {a : Addr} {xs : List V} (x : Sim P P') (h : SqT K P a xs) : SqT K P' a xs := by
  rcases h with h | h
  · exact .inl (x.r _ _ trivial h)
  · exact .inr h
theorem SqL.sim {a : Addr} {xs : List V} (x : Sim P P') (h : SqL K P a xs) : SqL K P' a xs := by
  rcases h with h | h
  · exact .inl (x.r _ _ trivial h)
  · exact .inr h
mutual
theorem Rep.sim (x : Sim P P') : ∀ (d : D) (v : V), Rep K ι P d v → Rep K ι P' d v
  | .non, v, h => by unfold Rep at h ⊢; exact h
  | .bl b, v, h => by unfold Rep at h ⊢; exact h
  | .int i, v, h => by unfold Rep at h ⊢; exact h
  | .str z, v, h => by unfold Rep at h ⊢; exact h
  | .tup xs, v, h => by
    unfold Rep at h ⊢
    obtain ⟨a, vs, e, ht, hr⟩ := h
    exact ⟨a, vs, e, x.g _ _ (fun z => z) trivial ht, Reps.sim x xs vs hr⟩
  | .kt xs, v, h => by
    unfold Rep at h ⊢
    obtain ⟨a, vs, e, ht, hr⟩ := h
    exact ⟨a, vs, e, SqT.sim x ht, Reps.sim x xs vs hr⟩
  | .lst xs, v, h => by
    unfold Rep at h ⊢
    obtain ⟨a, vs, e, ht, hr⟩ := h
    exact ⟨a, vs, e, x.g _ _ (fun z => z) trivial ht, Reps.sim x xs vs hr⟩
  | .scr ns, v, h => by
    unfold Rep at h ⊢
    obtain ⟨a, e, ht⟩ := h
    exact ⟨a, e, SqL.sim x ht⟩
  | .ins C fs xs, v, h => by
    unfold Rep at h ⊢
    obtain ⟨a, dx, vs, e, ht, hl, hr⟩ := h
    exact ⟨a, dx, vs, e, x.g _ _ (fun z => z) trivial ht, hl, Reps.sim x xs vs hr⟩
  | .dK ks xs, v, h => by
    unfold Rep at h ⊢
    obtain ⟨a, vs, e, ht, hl, hr⟩ := h
    exact ⟨a, vs, e, x.r _ _ trivial ht, hl, Reps.sim x xs vs hr⟩
  | .dT ks xs, v, h => by
    unfold Rep at h ⊢
    obtain ⟨a, vs, e, ht, hl, hr⟩ := h
    exact ⟨a, vs, e, x.r _ _ trivial ht, hl, Reps.sim x xs vs hr⟩
  | .ref n, v, h => by unfold Rep at h ⊢; exact h
  | .ty n, v, h => by unfold Rep at h ⊢; exact h
  | .cls C, v, h => by unfold Rep at h ⊢; exact h
theorem Reps.sim (x : Sim P P') : ∀ (ds : List D) (vs : List V), Reps K ι P ds vs → Reps K ι P' ds vs
  | [], vs, h => by unfold Reps at h ⊢; exact h
  | d :: ds, vs, h => by
    unfold Reps at h ⊢
    obtain ⟨v, r, e, h1, h2⟩ := h
    exact ⟨v, r, e, Rep.sim x d v h1, Reps.sim x ds r h2⟩
end
theorem CellAt.sim {H : Hp} {a : Addr} (x : Sim P P') : ∀ {c : Cell}, CellAt K ι P H a c → CellAt K ι P' H a c
  | .lst xs, ⟨vs, e, r⟩ => ⟨vs, e, r.sim x⟩
  | .dK kvs, ⟨vs, e, r⟩ => ⟨vs, e, r.sim x⟩
  | .dT kvs, ⟨vs, e, r⟩ => ⟨vs, e, r.sim x⟩
  | .ins C fs, ⟨dx, vs, e, r⟩ => ⟨dx, vs, e, r.sim x⟩
variable {Z H : Hp} {s : S} {σ : L2.St} {w : Wv} {v : V}
theorem SRel.turn {o o' : HO} (h : SRel K Z ι P H s σ) (e : P d = some o) (x : Sim P (upd P d o')) {Z' : Hp} (hz : ∀ a, a ≠ d → Z' a = Z a) (hd : ∀ u, Z' d = some u → u = o') : SRel K Z' ι (upd P d o') (upd H d o') s σ where
  p := fun a u q => by
    by_cases c : a = d
    · subst c; rw [upd_same] at q ⊢; exact q
    · rw [upd_ne c] at q ⊢; exact h.p a u q
  z := fun a u q => by
    by_cases c : a = d
    · subst c; rw [upd_same, hd u q]
    · rw [hz a c] at q; rw [upd_ne c]; exact h.z a u q
  nd := h.nd
  ιz := fun a ha => by rw [hz a (fun c => by subst c; have := h.ιp a ha; rw [e] at this; cases this)]; exact h.ιz a ha
  ιp := fun a ha => by rw [upd_ne (fun c => by subst c; have := h.ιp a ha; rw [e] at this; cases this)]; exact h.ιp a ha
  len := h.len
  cells := fun n c q => by
    obtain ⟨a, ha, hc⟩ := h.cells n c q
    have ne : a ≠ d := fun c => by subst c; have := h.ιp a (List.mem_of_getElem? ha); rw [e] at this; cases this
    exact ⟨a, ha, (hc.sim x).heap (upd_ne ne)⟩
  elen := h.elen
  env := fun i sl q => by
    have y := h.env i sl q
    cases sl with
    | no => trivial
    | d d => obtain ⟨v, e1, r⟩ := y; exact ⟨v, e1, Rep.sim x _ _ r⟩
    | own c =>
      obtain ⟨a, e1, e2, e3, e4, hc⟩ := y
      have ne : a ≠ d := fun c => by subst c; rw [e] at e2; cases e2
      exact ⟨a, e1, by rw [upd_ne ne]; exact e2, by rw [hz a ne]; exact e3, e4, (hc.sim x).heap (upd_ne ne)⟩
  sep := h.sep
theorem WRep.turn {o o' : HO} (r : WRep K Z ι P H s σ w v) (e : P d = some o) (x : Sim P (upd P d o')) {Z' : Hp} (hz : ∀ a, a ≠ d → Z' a = Z a) : WRep K Z' ι (upd P d o') (upd H d o') s σ w v := by
  cases w with
  | d d => exact Rep.sim x _ _ r
  | nw c =>
    obtain ⟨a, e1, e2, e3, e4, e5, hc⟩ := r
    have ne : a ≠ d := fun c => by subst c; rw [e] at e2; cases e2
    exact ⟨a, e1, by rw [upd_ne ne]; exact e2, by rw [hz a ne]; exact e3, e4, e5, (hc.sim x).heap (upd_ne ne)⟩
end
/-- slot i holds a dict; its own one is frozen first -/
def dslot (i : Nat) (s : S) : Option S := match s.env[i]? with
  | some (.d (.dK _ _)) => some s
  | some (.own (.dK kvs)) => some ⟨s.env.set i (.d (.dK (kvs.map (·.1)) (kvs.map (·.2)))), s.st⟩
  | _ => none
def LK (i : Nat) (σ : L2.St) (H : Hp) : Prop := ∃ d o u, σ[i]? = some (some (.ref d)) ∧ H d = some (.frz o u)
theorem dslot_ok {K : PySem.W.Frag} {Z : Hp} {ι : List Addr} {P H : Hp} {s s1 : S} {σ : L2.St} {i : Nat} (h : SRel K Z ι P H s σ) (e : dslot i s = some s1) :
    ∃ P1 d kvs, XZ Z ι P ι P1 ∧ SRel K Z ι P1 H s1 σ ∧ σ[i]? = some (some (.ref d)) ∧ L2.Rd P1 d (.dK kvs) := by
  unfold dslot at e
  cases q : s.env[i]? with
  | none => rw [q] at e; cases e
  | some sl =>
    rw [q] at e
    cases sl with
    | no => cases e
    | d d =>
      cases d with
      | dK ks vs =>
        cases e
        obtain ⟨v, e1, r⟩ := h.env i _ q
        unfold Rep at r
        obtain ⟨a, us, rfl, h1, _⟩ := r
        exact ⟨P, a, _, .refl, h, e1, h1⟩
      | _ => cases e
    | own c =>
      cases c with
      | dK kvs =>
        cases e
        obtain ⟨a, P', e1, x, h1, r⟩ := h.freeze q
        have r : Rep K ι P' (.dK (kvs.map (·.1)) (kvs.map (·.2))) (.ref a) := r
        unfold Rep at r
        obtain ⟨b, us, eb, h2, _⟩ := r
        cases eb
        exact ⟨P', a, _, x, h1, e1, h2⟩
      | _ => cases e
/-- no error -/
def Res.calm {α : Type} : Res α → Res α
  | .err _ _ => .stuck
  | r => r
def Fl.calm : Fl → Fl
  | .err _ _ => .stuck
  | r => r
def cLock (i : Nat) (f : S → Res Wv) : S → Res Wv := fun s => match dslot i s with
  | some s1 => (f s1).calm
  | none => .stuck
def sLock (i : Nat) (f : S → Fl) : S → Fl := fun s => match dslot i s with
  | some s1 => (f s1).calm
  | none => .stuck
section
variable {X : Cx} {W : WX} {e : Expr} {st : Stmt} {i : Nat}
theorem jw_lock {f : S → Res Wv} (h : PE X e fun σ H Q => tW X.K W f σ H Q ∧ LK i σ H) : JW X W e (cLock i f) :=
  pe_weak (pe_or' (pe_lock h) h) fun σ H Q ⟨s, ι, P, Z, hS, hO⟩ => by
    unfold cLock at hO
    cases q : dslot i s with
    | none => rw [q] at hO; exact hO.elim
    | some s1 =>
      rw [q] at hO
      obtain ⟨P1, d, kvs, x1, S1, e1, rd⟩ := dslot_ok hS q
      have hO : Out X.K (RW X.K) W Z ι P1 σ Q (f s1).calm := hO.trans x1
      rcases rd with rd | ⟨o, rd⟩
      · refine .inl ⟨d, .dK kvs, S1.p _ _ rd, trivial, fun od => ⟨?_, d, od, _, e1, upd_same⟩⟩
        have T1 := S1.turn rd (Sim.lock (od := od) rd trivial) (Z' := upd Z d (.frz od (.dK kvs))) (fun a c => upd_ne c) fun u z => by rw [upd_same] at z; cases z; rfl
        refine ⟨s1, ι, _, _, T1, ?_⟩
        cases q2 : f s1 with
        | err y s2 => rw [q2] at hO; exact hO.elim
        | stuck => rw [q2] at hO; exact hO
        | ok w s2 =>
          rw [q2] at hO
          intro v H2 ι2 P2 x2 T2 r2
          have eH : H2 d = some (.frz od (.dK kvs)) := T2.z d _ upd_same
          have eP : P2 d = some (.frz od (.dK kvs)) := (x2.z d _ upd_same).trans upd_same
          refine ⟨eH, ?_⟩
          have hz : ∀ a, a ≠ d → Z a = upd Z d (.frz od (.dK kvs)) a := fun a c => (upd_ne c).symm
          have S2 := T2.turn eP (Sim.unlock eP) hz fun u z => by
            have := S1.z d u z
            rw [S1.p _ _ rd] at this; cases this; rfl
          have w2 : WRep X.K Z ι2 (upd P2 d (.dK kvs)) (upd H2 d (.dK kvs)) s2 σ w v := WRep.turn r2 eP (Sim.unlock eP) hz
          refine hO v _ ι2 _ ⟨⟨x2.x.i, fun a u z => ?_⟩, fun a u z => ?_⟩ S2 w2
          · by_cases c : a = d
            · subst c; rw [upd_same, ← z, rd]
            · rw [upd_ne c]; exact x2.x.p a u (by rw [upd_ne c]; exact z)
          · by_cases c : a = d
            · subst c; rw [upd_same, rd]
            · rw [upd_ne c, x2.z a u (by rw [upd_ne c]; exact z), upd_ne c]
      · refine .inr ⟨⟨s1, ι, P1, Z, S1, ?_⟩, d, o, _, e1, S1.p _ _ rd⟩
        cases q2 : f s1 with
        | err y s2 => rw [q2] at hO; exact hO.elim
        | stuck => rw [q2] at hO; exact hO
        | ok w s2 => rw [q2] at hO; exact hO
end
/-! ### .. and walked -/
def keyD : Key → D
  | .inl i => .int i
  | .inr x => .str x
def iDk (i : Nat) : S → Res (List D) := fun s => match s.env[i]? with
  | some (.d (.dK ks _)) => .ok (ks.map keyD) s
  | _ => .stuck
def iDv (i : Nat) : S → Res (List D) := fun s => match s.env[i]? with
  | some (.d (.dK ks vs)) => .ok vs s
  | _ => .stuck
def iDi (i : Nat) : S → Res (List D) := fun s => match s.env[i]? with
  | some (.d (.dK ks vs)) => .ok ((ks.zip vs).map fun kv => .tup [keyD kv.1, kv.2]) s
  | _ => .stuck
section
variable {K : PySem.W.Frag} {ι : List Addr} {P : Hp} {d : Addr} {o : Obj} {ks : List Key} {xs : List D} {vs : List V}
theorem keyD_rep {k : Key} : Rep K ι P (keyD k) (kV k) := by
  cases k with
  | inl i => exact rep_int
  | inr x => exact rep_str
theorem it_keys (h : P d = some (.frz o (.dK (ks.zip vs)))) (hl : ks.length = vs.length) : ItOK K (Itk d o (ks.zip vs)) (ks.map keyD) ι P := fun ι' P' H x hp => by
  have ha := hp _ _ (x.p _ _ h)
  refine ⟨fun i e q => ?_, ha, by simp [List.length_zip, hl]⟩
  have hi : i < ks.length := by have := (List.getElem?_eq_some_iff.mp q).1; simpa using this
  refine ⟨⟨ha, by simp [List.length_zip, ← hl]; exact hi⟩, fun y H' ⟨e1, k, v, e2, e3⟩ => ?_⟩
  subst e1 e3
  have : ks[i]? = some k := by
    have := congrArg (Option.map (·.1)) e2
    rw [← List.getElem?_map, List.map_fst_zip (by omega)] at this
    exact this
  rw [List.getElem?_map, this] at q
  cases q
  exact ⟨P', Done.same hp keyD_rep⟩
theorem it_vals (h : P d = some (.frz o (.dK (ks.zip vs)))) (hl : ks.length = vs.length) (r : Reps K ι P xs vs) : ItOK K (Itd d o (ks.zip vs)) xs ι P := fun ι' P' H x hp => by
  have ha := hp _ _ (x.p _ _ h)
  refine ⟨fun i e q => ?_, ha, by simp [List.length_zip, hl, r.length]⟩
  obtain ⟨v, hv, rv⟩ := r.get q
  have hi : i < vs.length := (List.getElem?_eq_some_iff.mp hv).1
  refine ⟨⟨ha, by simp [List.length_zip, hl]; exact hi⟩, fun y H' ⟨e1, k, e2⟩ => ?_⟩
  subst e1
  have : vs[i]? = some y := by
    have := congrArg (Option.map (·.2)) e2
    rw [← List.getElem?_map, List.map_snd_zip (by omega)] at this
    exact this
  rw [hv] at this
  cases this
  exact ⟨P', Done.same hp (Rep.mono x _ _ rv)⟩
theorem it_items (h : P d = some (.frz o (.dK (ks.zip vs)))) (hl : ks.length = vs.length) (r : Reps K ι P xs vs) : ItOK K (Iti d o (ks.zip vs)) ((ks.zip xs).map fun kv => .tup [keyD kv.1, kv.2]) ι P := fun ι' P' H x hp => by
  have ha := hp _ _ (x.p _ _ h)
  refine ⟨fun i e q => ?_, ha, by simp [List.length_zip, hl, r.length]⟩
  rw [List.getElem?_map] at q
  obtain ⟨⟨k, xd⟩, q1, rfl⟩ := Option.map_eq_some_iff.mp q
  have qk : ks[i]? = some k := by
    have := congrArg (Option.map (·.1)) q1
    rw [← List.getElem?_map, List.map_fst_zip (by rw [hl, r.length]; exact Nat.le_refl _)] at this
    exact this
  have qx : xs[i]? = some xd := by
    have := congrArg (Option.map (·.2)) q1
    rw [← List.getElem?_map, List.map_snd_zip (by rw [hl, r.length]; exact Nat.le_refl _)] at this
    exact this
  obtain ⟨v, hv, rv⟩ := r.get qx
  have hi : i < vs.length := (List.getElem?_eq_some_iff.mp hv).1
  refine ⟨⟨ha, by simp [List.length_zip, hl]; exact hi⟩, fun y H' ⟨T, k', v', e2, e1, hn, e3⟩ => ?_⟩
  subst e1 e3
  have h1 : vs[i]? = some v' := by
    have := congrArg (Option.map (·.2)) e2
    rw [← List.getElem?_map, List.map_snd_zip (by omega)] at this
    exact this
  have h2 : ks[i]? = some k' := by
    have := congrArg (Option.map (·.1)) e2
    rw [← List.getElem?_map, List.map_fst_zip (by omega)] at this
    exact this
  rw [hv] at h1
  rw [qk] at h2
  cases h1
  cases h2
  have hp' : ∀ a o, P' a = some o → upd P' T (.tup [kV k, v]) a = some o := fun a o e => by rw [upd_ne (ne_of_none (hp a o e) hn)]; exact e
  refine ⟨_, Done.newD hp hn ?_⟩
  unfold Rep
  exact ⟨T, _, rfl, upd_same, Reps.cons keyD_rep (Reps.one (Rep.mono ⟨⟨[], by simp⟩, hp'⟩ _ _ (Rep.mono x _ _ rv)))⟩
variable {W : WX} {i : Nat} {σ : L2.St} {H : Hp} {R : It → Hp → Prop}
theorem lk_at {s : S} {Z : Hp} (hS : SRel K Z ι P H s σ) (lk : LK i σ H) (q : s.env[i]? = some (.d (.dK ks xs))) :
    ∃ d o vs, σ[i]? = some (some (.ref d)) ∧ H d = some (.frz o (.dK (ks.zip vs))) ∧ P d = some (.frz o (.dK (ks.zip vs))) ∧ ks.length = vs.length ∧ Reps K ι P xs vs := by
  obtain ⟨d, o, u, e1, e2⟩ := lk
  obtain ⟨v, e3, r⟩ := hS.env i _ q
  unfold Rep at r
  obtain ⟨a, vs, rfl, h1, hl, h2⟩ := r
  rw [e1] at e3
  cases e3
  rcases h1 with h1 | ⟨o', h1⟩
  · have := hS.p _ _ h1; rw [e2] at this; cases this
  · have := hS.p _ _ h1
    rw [e2] at this; cases this
    exact ⟨d, _, vs, e1, e2, h1, hl, h2⟩
theorem lk_keys (h : tR K (RI K) W (iDk i) σ H R) (lk : LK i σ H) : iKeys (tVar i) σ H R := by
  obtain ⟨s, ι, P, Z, hS, hO⟩ := h
  unfold iDk at hO
  split at hO
  case h_2 => exact hO.elim
  rename_i ks xs q
  obtain ⟨d, o, vs, e1, e2, e3, hl, r⟩ := lk_at hS lk q
  exact ⟨_, e1, d, o, rfl, .inl ⟨_, e2, Out.ok hO hS (it_keys e3 hl)⟩⟩
theorem lk_vals (h : tR K (RI K) W (iDv i) σ H R) (lk : LK i σ H) : iVals (tVar i) σ H R := by
  obtain ⟨s, ι, P, Z, hS, hO⟩ := h
  unfold iDv at hO
  split at hO
  case h_2 => exact hO.elim
  rename_i ks xs q
  obtain ⟨d, o, vs, e1, e2, e3, hl, r⟩ := lk_at hS lk q
  exact ⟨_, e1, d, o, _, rfl, e2, Out.ok hO hS (it_vals e3 hl r)⟩
theorem lk_items (h : tR K (RI K) W (iDi i) σ H R) (lk : LK i σ H) : iItems (tVar i) σ H R := by
  obtain ⟨s, ι, P, Z, hS, hO⟩ := h
  unfold iDi at hO
  split at hO
  case h_2 => exact hO.elim
  rename_i ks xs q
  obtain ⟨d, o, vs, e1, e2, e3, hl, r⟩ := lk_at hS lk q
  exact ⟨_, e1, d, o, _, rfl, e2, Out.ok hO hS (it_items e3 hl r)⟩
end
/-- an iterable that wants slot i locked -/
structure JDI (X : Cx) (W : WX) (tg iter : Expr) (i : Nat) (it : S → Res (List D)) where
  wi : TI
  h : PI X tg iter wi
  k : ∀ σ H R, tR X.K (RI X.K) W it σ H R → LK i σ H → wi σ H R
section
variable {X : Cx} {W : WX} {tg e : Expr} {i : Nat} {apos cpos : Pos}
def jdi_keys (h : PE X e (tVar i)) : JDI X W tg e i (iDk i) := ⟨_, pi_keys h, fun _ _ _ => lk_keys⟩
def jdi_vals (h : PE X e (tVar i)) (hbase : attributeBase e "values" X.env (eval e X.env) = eval e X.env := by rfl) (hline : (apos.endLine == cpos.line) = true := by rfl) : JDI X W tg (.Call (.Attribute e "values" apos) [] [] cpos) i (iDv i) :=
  ⟨_, pi_values h hbase hline, fun _ _ _ => lk_vals⟩
def jdi_items {elts : List Expr} {kk : Nat} {tpos : Pos} (h : PE X e (tVar i)) (hbase : attributeBase e "items" X.env (eval e X.env) = eval e X.env := by rfl) (hline : (apos.endLine == cpos.line) = true := by rfl) :
    JDI X W (.Tuple elts kk tpos) (.Call (.Attribute e "items" apos) [] [] cpos) i (iDi i) := ⟨_, pi_items h hbase hline, fun _ _ _ => lk_items⟩
theorem jw_compD {elt iter : Expr} {ifs : List Expr} {scope : Scope} {own : List (Str × Nat)} {pos : Pos} {it : S → Res (List D)} {ct : CT} {tt : S → Res Bool} {te : S → Res D} (hc : X.calm = true) (hN : X.N.Nodup) (hi : JDI X W tg iter i it) (ok : BlkOk X.N X.env.scope scope own)
    (hg : ∀ (s : Shared) (H : Hp) (C : Addr) (cl : List (Str × Addr)) (fp : List Addr), PG (X.blk s H scope (compEnvC scope cl C X.env) fp) tg (ct.tg X.K))
    (ht : ∀ (s : Shared) (H : Hp) (C : Addr) (cl : List (Str × Addr)) (fp : List Addr), PTs (X.blk s H scope (compEnvC scope cl C X.env) fp) ifs (tR X.K RB W0 tt))
    (he : ∀ (s : Shared) (H : Hp) (C : Addr) (cl : List (Str × Addr)) (fp : List Addr), JD (X.blk s H scope (compEnvC scope cl C X.env) fp) W0 elt te)
    (hct : ∀ j ∈ ct.slots, j ∈ own.map (·.2)) (hs : ∀ x, foldedSetIterable iter X.env x = pure x := by intro _; rfl) :
    JW X W (.ListComp elt [⟨tg, iter, ifs, 0⟩] scope pos) (cLock i (cComp it ct (own.map (·.2)) tt te)) :=
  jw_lock (pe_weak (pe_lc hc hN hi.h ok hg ht he hs) fun σ H Q ⟨h, lk⟩ => hi.k _ _ _ (comp_t hct h) lk)
end
end PL
end

section
set_option Elab.async false
set_option linter.all false
set_option maxRecDepth 100000
set_option maxHeartbeats 2000000
namespace PL
open PySem PySem.Spec PyProof.Rows L2

/-! ### a def of the text, found, and what it stands for -/
structure FOk (P : Program) (w : World) (K : PySem.W.Frag) (mg : Str → Option Value) (base : Heap) (d : He.DefD) (k : Nat) (ps : List Str) (n : Nat) (fn : Fn) : Prop where
  ex : ∃ fd, FunD K d.name d.qual d.params d.body d.scope (d.dvs K) (d.kws K) (He.fAd K d.at_) fd ∧ FnOk P w K mg base (L2.CX P w) k (He.fAd K d.at_) fd ps (spOf K n fn)
  ar : Arity n fn
/-- how values bind, no defaults used -/
def BindN (d : He.DefD) (ps : List Str) : Prop := d.dfl = [] ∧ ∀ (kV doc pm : Value) (an : Option Addr) (cdv ct : Value) (us : List Value), us.length = ps.length →
  bindArgs (PySem.W.fnOf d.name d.qual d.params d.body d.scope .none kV doc pm an cdv ct) ⟨us, []⟩ = pure (ps.zip us)
/-- n1 values, the defaults from the j-th on -/
def BindD (d : He.DefD) (ps : List Str) (n1 j : Nat) : Prop := d.dfl ≠ [] ∧ n1 + (d.dfl.length - j) = ps.length ∧ ∀ (T : Addr) (kV doc pm : Value) (an : Option Addr) (cdv ct : Value) (us its : List Value), us.length = n1 → its.length = d.dfl.length →
  ∃ k, bindArgs (PySem.W.fnOf d.name d.qual d.params d.body d.scope (.ref T) kV doc pm an cdv ct) ⟨us, []⟩ = seqItems? (.ref T) >>= k ∧ k (some its.toArray) = pure (ps.zip (us ++ its.drop j))
/-- keywords, no defaults used -/
def BindK (d : He.DefD) (ps ks : List Str) (n1 : Nat) (pe : List Nat) : Prop := d.dfl = [] ∧ ∀ (kV doc pm' : Value) (an : Option Addr) (cdv ct : Value) (us ws : List Value), us.length = n1 → ws.length = ks.length →
  bindArgs (PySem.W.fnOf d.name d.qual d.params d.body d.scope .none kV doc pm' an cdv ct) ⟨us, ks.zip ws⟩ = pure (ps.zip (pm pe (us ++ ws)))
section
variable {K : PySem.W.Frag} {d : He.DefD} {ps ks : List Str} {fd : FuncData} {f : Addr} {n1 j : Nat} {pe : List Nat}
theorem BindN.binds (b : BindN d ps) (F : FunD K d.name d.qual d.params d.body d.scope (d.dvs K) (d.kws K) f fd) : Binds K fd ps [] := by
  obtain ⟨e, h⟩ := b
  have e2 : d.dvs K = [] := by unfold He.DefD.dvs; rw [e]; rfl
  rw [e2] at F
  exact F.bindsN h
theorem BindD.binds (b : BindD d ps n1 j) (F : FunD K d.name d.qual d.params d.body d.scope (d.dvs K) (d.kws K) f fd) : ∃ ds, Vals ((d.dvs K).drop j) ds ∧ Binds K fd ps ds := by
  obtain ⟨e, e1, h⟩ := b
  have hl : (d.dvs K).length = d.dfl.length := by unfold He.DefD.dvs; simp
  refine F.binds1 n1 j (fun z => e ?_) (by rw [hl]; exact e1) fun T kV doc pm an cdv ct us its l1 l2 => h T kV doc pm an cdv ct us its l1 (l2.trans hl)
  rw [z] at hl
  exact List.length_eq_zero_iff.mp hl.symm
theorem BindK.binds (b : BindK d ps ks n1 pe) (F : FunD K d.name d.qual d.params d.body d.scope (d.dvs K) (d.kws K) f fd) : KwB K fd ps ks n1 pe := by
  obtain ⟨e, h⟩ := b
  have e2 : d.dvs K = [] := by unfold He.DefD.dvs; rw [e]; rfl
  rw [e2] at F
  exact kwB F h
end
theorem FOk.mk' {P : Program} {w : World} {K : PySem.W.Frag} {mg : Str → Option Value} {base : Heap} {d : He.DefD} {N ps : List Str} {k n : Nat} {b : S → Fl} (F : ∃ fd, FunD K d.name d.qual d.params d.body d.scope (d.dvs K) (d.kws K) (He.fAd K d.at_) fd) (sc : FnScope N ps d.scope) (hn : ps.length = n)
    (h : ∀ (f : Addr) (cdv : Value) (A : Around) (outer : List PySem.Env) (s : Shared) (H : Hp) (E : XK), Room k (A.deeper (envOfC d.qual d.scope s.heap.objs.size f cdv)) →
      Takes (cxOf (L2.CX P w) P w K mg base N d.qual d.scope f cdv A outer s H E) (fun c d _ H => E c d H) →
      PassesOwn (model P w) (A.deeper (envOfC d.qual d.scope s.heap.objs.size f cdv)) (envOfC d.qual d.scope s.heap.objs.size f cdv) (cxOf (L2.CX P w) P w K mg base N d.qual d.scope f cdv A outer s H E).xe →
      JSs (cxOf (L2.CX P w) P w K mg base N d.qual d.scope f cdv A outer s H E) (fun c d _ H => E c d H) d.body b) :
    FOk P w K mg base d (k + 1) ps n (mkFn n N.length b) := by
  obtain ⟨fd, F⟩ := F
  exact ⟨⟨fd, F, fn_ok F sc hn (h _)⟩, mkFn_arity⟩
theorem FOk.more {P : Program} {w : World} {K : PySem.W.Frag} {mg : Str → Option Value} {base : Heap} {d : He.DefD} {ps : List Str} {j k n : Nat} {fn : Fn} (F : FOk P w K mg base d j ps n fn) (h : j ≤ k) : FOk P w K mg base d k ps n fn := by
  obtain ⟨⟨fd, F1, F2⟩, ar⟩ := F
  exact ⟨⟨fd, F1, F2.mono h⟩, ar⟩
section
variable {X : Cx} {W : WX} {e : Expr} {es : List Expr} {pos p apos : Pos} {kws : List Keyword} {args kargs : S → Res (List D)} {fn : Fn} {d : He.DefD} {k n : Nat} {ps ks : List Str} {x : Str}
theorem jw_f (F : FOk X.prog X.w X.K X.mg X.base d k ps n fn) (hr : Room k X.A) (tk : Takes X W) (hg : Gl X x) (hm : X.mg x = some (.ref (He.fAd X.K d.at_))) (bd : BindN d ps) (ha : JL X W (e :: es) args) (hdb : (x == ("__debug__" : Str)) = false := by decide)
    (he : starEach (e :: es) X.env = (false, eval e X.env) :: starEach es X.env := by rfl) (hpl : (backTo pos (starEach es X.env)).any (·.1) = false := by rfl) : JW X W (.Call (.Name x p) (e :: es) [] pos) (cCall fn args []) := by
  obtain ⟨⟨fd, F1, F2⟩, ar⟩ := F
  exact jw_call F2 ar hr tk hg hm F1.kp (bd.binds F1) .nil (fun _ _ => Reps.nil) ha hdb he hpl
theorem jw_fD {n1 j : Nat} {dfl : List D} (F : FOk X.prog X.w X.K X.mg X.base d k ps n fn) (hr : Room k X.A) (tk : Takes X W) (hg : Gl X x) (hm : X.mg x = some (.ref (He.fAd X.K d.at_))) (bd : BindD d ps n1 j) (hd : ∀ ι P, Reps X.K ι P dfl ((d.dvs X.K).drop j)) (ha : JL X W (e :: es) args) (hdb : (x == ("__debug__" : Str)) = false := by decide)
    (he : starEach (e :: es) X.env = (false, eval e X.env) :: starEach es X.env := by rfl) (hpl : (backTo pos (starEach es X.env)).any (·.1) = false := by rfl) : JW X W (.Call (.Name x p) (e :: es) [] pos) (cCall fn args dfl) := by
  obtain ⟨⟨fd, F1, F2⟩, ar⟩ := F
  obtain ⟨ds, h1, h2⟩ := bd.binds F1
  exact jw_call F2 ar hr tk hg hm F1.kp h2 h1 hd ha hdb he hpl
theorem jw_f0 (F : FOk X.prog X.w X.K X.mg X.base d k ps n fn) (hr : Room k X.A) (tk : Takes X W) (hg : Gl X x) (hm : X.mg x = some (.ref (He.fAd X.K d.at_))) (bd : BindN d ps) (hdb : (x == ("__debug__" : Str)) = false := by decide) : JW X W (.Call (.Name x p) [] [] pos) (cCall fn cNil []) := by
  obtain ⟨⟨fd, F1, F2⟩, ar⟩ := F
  exact jw_call0 F2 ar hr tk hg hm F1.kp (bd.binds F1) .nil (fun _ _ => Reps.nil) hdb
theorem jw_fK0 {pe : List Nat} (F : FOk X.prog X.w X.K X.mg X.base d k ps n fn) (hr : Room k X.A) (tk : Takes X W) (hg : Gl X x) (hm : X.mg x = some (.ref (He.fAd X.K d.at_))) (bd : BindK d ps ks 0 pe) (hkw : JK X W kws kargs) (hlk : ∀ s ds s', kargs s = .ok ds s' → ds.length = ks.length)
    (hall : (backToKw pos (keywordEach kws X.env)).all (·.1.isSome) = true := by rfl) (hks : (backToKw pos (keywordEach kws X.env)).filterMap (·.1) = ks := by rfl)
    (hdb : (x == ("__debug__" : Str)) = false := by decide)
    (hpl : ((backTo pos (starEach [] X.env)).any (·.1) || (backToKw pos (keywordEach kws X.env)).any (·.1.isNone)) = false := by rfl) : JW X W (.Call (.Name x p) [] kws pos) (cCallK fn cNil kargs pe) := by
  obtain ⟨⟨fd, F1, F2⟩, ar⟩ := F
  exact jw_callK0 F2 ar hr tk hg hm F1.kp (bd.binds F1) hkw hlk hall hks hdb hpl
theorem jw_fK {pe : List Nat} {n1 : Nat} (F : FOk X.prog X.w X.K X.mg X.base d k ps n fn) (hr : Room k X.A) (tk : Takes X W) (hg : Gl X x) (hm : X.mg x = some (.ref (He.fAd X.K d.at_))) (bd : BindK d ps ks n1 pe) (ha : JL X W (e :: es) args) (hkw : JK X W kws kargs) (h1 : (e :: es).length = n1 := by rfl) (h2 : kws.length = ks.length := by rfl)
    (hla : ∀ s ds s', args s = .ok ds s' → ds.length = n1) (hlk : ∀ s ds s', kargs s = .ok ds s' → ds.length = ks.length)
    (hall : (backToKw pos (keywordEach kws X.env)).all (·.1.isSome) = true := by rfl) (hks : (backToKw pos (keywordEach kws X.env)).filterMap (·.1) = ks := by rfl)
    (hdb : (x == ("__debug__" : Str)) = false := by decide) (he : starEach (e :: es) X.env = (false, eval e X.env) :: starEach es X.env := by rfl)
    (hpl : ((backTo pos (starEach (e :: es) X.env)).any (·.1) || (backToKw pos (keywordEach kws X.env)).any (·.1.isNone)) = false := by rfl) :
    JW X W (.Call (.Name x p) (e :: es) kws pos) (cCallK fn args kargs pe) := by
  obtain ⟨⟨fd, F1, F2⟩, ar⟩ := F
  exact jw_callK F2 ar hr tk hg hm F1.kp (bd.binds F1) ha hkw h1 h2 hla hlk hall hks hdb he hpl
variable {E : XK} {C : Str}
theorem jw_new (M : Mk X.K (He.ga X.K C) (He.fAd X.K d.at_)) (F : FOk X.prog X.w X.K X.mg X.base d k ps n fn) (hr : Room (k + 1) X.A) (tk : Takes X (fun c d _ H => E c d H)) (hg : Gl X x) (hm : X.mg x = some (.ref (He.ga X.K C))) (bd : BindN d ps)
    (ha : JL X (fun c d _ H => E c d H) (e :: es) args) (hdb : (x == ("__debug__" : Str)) = false := by decide)
    (he : starEach (e :: es) X.env = (false, eval e X.env) :: starEach es X.env := by rfl) (hpl : (backTo pos (starEach es X.env)).any (·.1) = false := by rfl) : JW X (fun c d _ H => E c d H) (.Call (.Name x p) (e :: es) [] pos) (cMake C fn args []) := by
  obtain ⟨⟨fd, F1, F2⟩, ar⟩ := F
  exact jw_make M F2 ar hr tk hg hm (bd.binds F1) .nil (fun _ _ => Reps.nil) ha hdb he hpl
theorem jw_newD {n1 j : Nat} {dfl : List D} (M : Mk X.K (He.ga X.K C) (He.fAd X.K d.at_)) (F : FOk X.prog X.w X.K X.mg X.base d k ps n fn) (hr : Room (k + 1) X.A) (tk : Takes X (fun c d _ H => E c d H)) (hg : Gl X x) (hm : X.mg x = some (.ref (He.ga X.K C))) (bd : BindD d ps n1 j) (hd : ∀ ι P, Reps X.K ι P dfl ((d.dvs X.K).drop j))
    (ha : JL X (fun c d _ H => E c d H) (e :: es) args) (hdb : (x == ("__debug__" : Str)) = false := by decide)
    (he : starEach (e :: es) X.env = (false, eval e X.env) :: starEach es X.env := by rfl) (hpl : (backTo pos (starEach es X.env)).any (·.1) = false := by rfl) : JW X (fun c d _ H => E c d H) (.Call (.Name x p) (e :: es) [] pos) (cMake C fn args dfl) := by
  obtain ⟨⟨fd, F1, F2⟩, ar⟩ := F
  obtain ⟨ds, h1, h2⟩ := bd.binds F1
  exact jw_make M F2 ar hr tk hg hm h2 h1 hd ha hdb he hpl
theorem jw_newK0 {pe : List Nat} (M : Mk X.K (He.ga X.K C) (He.fAd X.K d.at_)) (F : FOk X.prog X.w X.K X.mg X.base d k ps n fn) (hr : Room (k + 1) X.A) (tk : Takes X (fun c d _ H => E c d H)) (hg : Gl X x) (hm : X.mg x = some (.ref (He.ga X.K C))) (bd : BindK d ps ks 1 (0 :: pe.map (· + 1)))
    (hkw : JK X (fun c d _ H => E c d H) kws kargs) (hlk : ∀ s ds s', kargs s = .ok ds s' → ds.length = ks.length)
    (hall : (backToKw pos (keywordEach kws X.env)).all (·.1.isSome) = true := by rfl) (hks : (backToKw pos (keywordEach kws X.env)).filterMap (·.1) = ks := by rfl) (hdb : (x == ("__debug__" : Str)) = false := by decide)
    (hpl : ((backTo pos (starEach [] X.env)).any (·.1) || (backToKw pos (keywordEach kws X.env)).any (·.1.isNone)) = false := by rfl) :
    JW X (fun c d _ H => E c d H) (.Call (.Name x p) [] kws pos) (cMakeK C fn cNil kargs pe) := by
  obtain ⟨⟨fd, F1, F2⟩, ar⟩ := F
  exact jw_makeK0 M F2 ar hr tk hg hm (bd.binds F1) hkw hlk hall hks hdb hpl
end

/-! ### built-in functions and methods, ready -/
section
variable {X : Cx} {W : WX} {e : Expr} {es : List Expr} {os : List Opd} {o : Opd} {p pos apos : Pos} {ob : Expr} {args : S → Res (List D)}
theorem jw_len (hg : Gl X "len") (hm : X.mg "len" = none) (ha : JOs X W (e :: es) os) (he : starEach (e :: es) X.env = (false, eval e X.env) :: starEach es X.env := by rfl) (hpl : (backTo pos (starEach es X.env)).any (·.1) = false := by rfl) :
    JW X W (.Call (.Name "len" p) (e :: es) [] pos) (cOpN gLen os) := jw_blt call_lenA good_len hg hm boot_len ha (by decide) (by decide) he hpl
theorem jw_isi {Cs : List Str} (ok : IsiOk X.K Cs) (hg : Gl X "isinstance") (hm : X.mg "isinstance" = none) (ha : JOs X W (e :: es) os) (he : starEach (e :: es) X.env = (false, eval e X.env) :: starEach es X.env := by rfl) (hpl : (backTo pos (starEach es X.env)).any (·.1) = false := by rfl) :
    JW X W (.Call (.Name "isinstance" p) (e :: es) [] pos) (cOpN (gIsi Cs) os) := jw_blt call_isi (good_isi ok) hg hm boot_isinstance ha (by decide) (by decide) he hpl
theorem jw_abs (hg : Gl X "abs") (hm : X.mg "abs" = none) (ha : JOs X W (e :: es) os) (he : starEach (e :: es) X.env = (false, eval e X.env) :: starEach es X.env := by rfl) (hpl : (backTo pos (starEach es X.env)).any (·.1) = false := by rfl) :
    JW X W (.Call (.Name "abs" p) (e :: es) [] pos) (cOpN gAbs os) := jw_blt call_abs good_abs hg hm (by decide +kernel) ha (by decide) (by decide) he hpl
theorem jw_int (hg : Gl X "int") (hm : X.mg "int" = none) (ha : JOs X W (e :: es) os) (he : starEach (e :: es) X.env = (false, eval e X.env) :: starEach es X.env := by rfl) (hpl : (backTo pos (starEach es X.env)).any (·.1) = false := by rfl) :
    JW X W (.Call (.Name "int" p) (e :: es) [] pos) (cOpN gInt os) := jw_ty call_int1 good_int hg hm (by decide +kernel) ha (by decide) (by decide) he hpl
theorem jw_min (hc : X.calm = true) (hg : Gl X "min") (hm : X.mg "min" = none) (ha : JOs X W (e :: es) os) (he : starEach (e :: es) X.env = (false, eval e X.env) :: starEach es X.env := by rfl) (hpl : (backTo pos (starEach es X.env)).any (·.1) = false := by rfl) :
    JW X W (.Call (.Name "min" p) (e :: es) [] pos) (cOpN gMin2 os) := jw_blt (call_min2 hc) good_min2 hg hm (by decide +kernel) ha (by decide) (by decide) he hpl
theorem jw_max (hc : X.calm = true) (hg : Gl X "max") (hm : X.mg "max" = none) (ha : JOs X W (e :: es) os) (he : starEach (e :: es) X.env = (false, eval e X.env) :: starEach es X.env := by rfl) (hpl : (backTo pos (starEach es X.env)).any (·.1) = false := by rfl) :
    JW X W (.Call (.Name "max" p) (e :: es) [] pos) (cOpN gMax2 os) := jw_blt (call_max2 hc) good_max2 hg hm (by decide +kernel) ha (by decide) (by decide) he hpl
theorem jw_sum (hc : X.calm = true) (hg : Gl X "sum") (hm : X.mg "sum" = none) (ha : JOs X W (e :: es) os) (he : starEach (e :: es) X.env = (false, eval e X.env) :: starEach es X.env := by rfl) (hpl : (backTo pos (starEach es X.env)).any (·.1) = false := by rfl) :
    JW X W (.Call (.Name "sum" p) (e :: es) [] pos) (cOpN gSum os) := jw_blt (cr_sum hc) good_sum hg hm (by decide +kernel) ha (by decide) (by decide) he hpl
theorem jw_any (hc : X.calm = true) (hg : Gl X "any") (hm : X.mg "any" = none) (ha : JOs X W (e :: es) os) (he : starEach (e :: es) X.env = (false, eval e X.env) :: starEach es X.env := by rfl) (hpl : (backTo pos (starEach es X.env)).any (·.1) = false := by rfl) :
    JW X W (.Call (.Name "any" p) (e :: es) [] pos) (cOpN gAny os) := jw_blt (cr_any hc) good_any hg hm (by decide +kernel) ha (by decide) (by decide) he hpl
theorem jw_all (hc : X.calm = true) (hg : Gl X "all") (hm : X.mg "all" = none) (ha : JOs X W (e :: es) os) (he : starEach (e :: es) X.env = (false, eval e X.env) :: starEach es X.env := by rfl) (hpl : (backTo pos (starEach es X.env)).any (·.1) = false := by rfl) :
    JW X W (.Call (.Name "all" p) (e :: es) [] pos) (cOpN gAllB os) := jw_blt (cr_all hc) good_all hg hm (by decide +kernel) ha (by decide) (by decide) he hpl
theorem call_tupA (hc : X.calm = true) : CallR X (.type "tuple") (fun xs H Q => rTupleS xs H Q ∨ rTupleOf X.K xs H Q) := fun pins s σ H xs us Q I r h => by
  rcases h with h | h
  · exact call_tupleS hc pins s σ H xs us Q I r h
  · exact call_tuple_of pins s σ H xs us Q I r h
theorem jw_tuple (hc : X.calm = true) (hg : Gl X "tuple") (hm : X.mg "tuple" = none) (ha : JOs X W (e :: es) os) (he : starEach (e :: es) X.env = (false, eval e X.env) :: starEach es X.env := by rfl) (hpl : (backTo pos (starEach es X.env)).any (·.1) = false := by rfl) :
    JW X W (.Call (.Name "tuple" p) (e :: es) [] pos) (cOpN gTupleS os) := jw_ty (call_tupA hc) good_tupleS hg hm (by decide +kernel) ha (by decide) (by decide) he hpl
theorem jw_list (hg : Gl X "list") (hm : X.mg "list" = none) (ha : JOs X W (e :: es) os) (he : starEach (e :: es) X.env = (false, eval e X.env) :: starEach es X.env := by rfl) (hpl : (backTo pos (starEach es X.env)).any (·.1) = false := by rfl) :
    JW X W (.Call (.Name "list" p) (e :: es) [] pos) (cOpN gList os) := jw_ty call_list_of good_list hg hm (by decide +kernel) ha (by decide) (by decide) he hpl
theorem jw_dict (hc : X.calm = true) (hg : Gl X "dict") (hm : X.mg "dict" = none) (ha : JOs X W (e :: es) os) (he : starEach (e :: es) X.env = (false, eval e X.env) :: starEach es X.env := by rfl) (hpl : (backTo pos (starEach es X.env)).any (·.1) = false := by rfl) :
    JW X W (.Call (.Name "dict" p) (e :: es) [] pos) (cOpN gDict os) := jw_ty (call_dictP hc) good_dict hg hm (by decide +kernel) ha (by decide) (by decide) he hpl
theorem jw_join (ho : JO X W ob o) (ha : JOs X W (e :: es) os)
    (hbase : attributeBase ob "join" X.env (eval ob X.env) = eval ob X.env := by rfl)
    (hfew : ((backTo pos (starEach (e :: es) X.env)).all (fun x => !x.1) && (backToKw pos (keywordEach [] X.env)).all (fun x => x.1.isSome)
      && decide ((e :: es).length + ([] : List Keyword).length + (if ([] : List Keyword).isEmpty then 0 else 1) < 30)) = true := by rfl)
    (hline : (apos.endLine == pos.line) = true := by rfl) (hs : starEach (e :: es) X.env = (false, eval e X.env) :: starEach es X.env := by rfl) (hplain : (backTo pos (starEach es X.env)).any (·.1) = false := by rfl) :
    JW X W (.Call (.Attribute ob "join" apos) (e :: es) [] pos) (cMth "str" gJoin o os) := jw_mth F.plainAttrs_str F.slot_str_join F.type_str_join mt_join good_join (by decide) ho ha hbase hfew hline hs hplain
theorem jw_sindex (ho : JO X W ob o) (ha : JOs X W (e :: es) os)
    (hbase : attributeBase ob "index" X.env (eval ob X.env) = eval ob X.env := by rfl)
    (hfew : ((backTo pos (starEach (e :: es) X.env)).all (fun x => !x.1) && (backToKw pos (keywordEach [] X.env)).all (fun x => x.1.isSome)
      && decide ((e :: es).length + ([] : List Keyword).length + (if ([] : List Keyword).isEmpty then 0 else 1) < 30)) = true := by rfl)
    (hline : (apos.endLine == pos.line) = true := by rfl) (hs : starEach (e :: es) X.env = (false, eval e X.env) :: starEach es X.env := by rfl) (hplain : (backTo pos (starEach es X.env)).any (·.1) = false := by rfl) :
    JW X W (.Call (.Attribute ob "index" apos) (e :: es) [] pos) (cMth "str" gSIndex o os) := jw_mth F.plainAttrs_str F.slot_str_index F.type_str_index mt_sindex good_sindex (by decide) ho ha hbase hfew hline hs hplain
theorem jw_lindex (ho : JO X W ob o) (ha : JOs X W (e :: es) os)
    (hbase : attributeBase ob "index" X.env (eval ob X.env) = eval ob X.env := by rfl)
    (hfew : ((backTo pos (starEach (e :: es) X.env)).all (fun x => !x.1) && (backToKw pos (keywordEach [] X.env)).all (fun x => x.1.isSome)
      && decide ((e :: es).length + ([] : List Keyword).length + (if ([] : List Keyword).isEmpty then 0 else 1) < 30)) = true := by rfl)
    (hline : (apos.endLine == pos.line) = true := by rfl) (hs : starEach (e :: es) X.env = (false, eval e X.env) :: starEach es X.env := by rfl) (hplain : (backTo pos (starEach es X.env)).any (·.1) = false := by rfl) :
    JW X W (.Call (.Attribute ob "index" apos) (e :: es) [] pos) (cMth "list" gIndex o os) := jw_mth F.plainAttrs_list F.slot_list_index F.type_list_index mt_index good_index (by decide) ho ha hbase hfew hline hs hplain
theorem jw_scount (ho : JO X W ob o) (ha : JOs X W (e :: es) os)
    (hbase : attributeBase ob "count" X.env (eval ob X.env) = eval ob X.env := by rfl)
    (hfew : ((backTo pos (starEach (e :: es) X.env)).all (fun x => !x.1) && (backToKw pos (keywordEach [] X.env)).all (fun x => x.1.isSome)
      && decide ((e :: es).length + ([] : List Keyword).length + (if ([] : List Keyword).isEmpty then 0 else 1) < 30)) = true := by rfl)
    (hline : (apos.endLine == pos.line) = true := by rfl) (hs : starEach (e :: es) X.env = (false, eval e X.env) :: starEach es X.env := by rfl) (hplain : (backTo pos (starEach es X.env)).any (·.1) = false := by rfl) :
    JW X W (.Call (.Attribute ob "count" apos) (e :: es) [] pos) (cMth "str" gSCount o os) := jw_mth F.plainAttrs_str F.slot_str_count F.type_str_count mt_count good_scount (by decide) ho ha hbase hfew hline hs hplain
theorem jw_append (ho : JO X W ob o) (ha : JL X W (e :: es) args)
    (hbase : attributeBase ob "append" X.env (eval ob X.env) = eval ob X.env := by rfl)
    (hfew : ((backTo pos (starEach (e :: es) X.env)).all (fun x => !x.1) && (backToKw pos (keywordEach [] X.env)).all (fun x => x.1.isSome)
      && decide ((e :: es).length + ([] : List Keyword).length + (if ([] : List Keyword).isEmpty then 0 else 1) < 30)) = true := by rfl)
    (hline : (apos.endLine == pos.line) = true := by rfl) (hs : starEach (e :: es) X.env = (false, eval e X.env) :: starEach es X.env := by rfl) (hplain : (backTo pos (starEach es X.env)).any (·.1) = false := by rfl) :
    JW X W (.Call (.Attribute ob "append" apos) (e :: es) [] pos) (cMut "list" o args gAppend) :=
  jw_mut F.plainAttrs_list F.slot_list_append F.type_list_append mt_append good_append ho ha fun t t' h h' => pe_bm F.plainAttrs_list F.slot_list_append F.type_list_append mt_append h h' hbase hfew hline hs hplain
theorem jw_extend (ho : JO X W ob o) (ha : JL X W (e :: es) args)
    (hbase : attributeBase ob "extend" X.env (eval ob X.env) = eval ob X.env := by rfl)
    (hfew : ((backTo pos (starEach (e :: es) X.env)).all (fun x => !x.1) && (backToKw pos (keywordEach [] X.env)).all (fun x => x.1.isSome)
      && decide ((e :: es).length + ([] : List Keyword).length + (if ([] : List Keyword).isEmpty then 0 else 1) < 30)) = true := by rfl)
    (hline : (apos.endLine == pos.line) = true := by rfl) (hs : starEach (e :: es) X.env = (false, eval e X.env) :: starEach es X.env := by rfl) (hplain : (backTo pos (starEach es X.env)).any (·.1) = false := by rfl) :
    JW X W (.Call (.Attribute ob "extend" apos) (e :: es) [] pos) (cMut "list" o args gExtend) :=
  jw_mut F.plainAttrs_list F.slot_list_extend F.type_list_extend mt_extend good_extend ho ha fun t t' h h' => pe_bm F.plainAttrs_list F.slot_list_extend F.type_list_extend mt_extend h h' hbase hfew hline hs hplain
theorem jw_pop (ho : JO X W ob o)
    (hbase : attributeBase ob "pop" X.env (eval ob X.env) = eval ob X.env := by rfl) (hline : (apos.endLine == pos.line) = true := by rfl) :
    JW X W (.Call (.Attribute ob "pop" apos) [] [] pos) (cMut "list" o cNil gPop) :=
  jw_mut0 good_pop ho fun t h => pe_bm0 F.plainAttrs_list F.slot_list_pop F.type_list_pop mt_pop h hbase hline
theorem jw_popAt (ho : JO X W ob o) (ha : JL X W (e :: es) args)
    (hbase : attributeBase ob "pop" X.env (eval ob X.env) = eval ob X.env := by rfl)
    (hfew : ((backTo pos (starEach (e :: es) X.env)).all (fun x => !x.1) && (backToKw pos (keywordEach [] X.env)).all (fun x => x.1.isSome)
      && decide ((e :: es).length + ([] : List Keyword).length + (if ([] : List Keyword).isEmpty then 0 else 1) < 30)) = true := by rfl)
    (hline : (apos.endLine == pos.line) = true := by rfl) (hs : starEach (e :: es) X.env = (false, eval e X.env) :: starEach es X.env := by rfl) (hplain : (backTo pos (starEach es X.env)).any (·.1) = false := by rfl) :
    JW X W (.Call (.Attribute ob "pop" apos) (e :: es) [] pos) (cMut "list" o args gPopAt) :=
  jw_mut F.plainAttrs_list F.slot_list_pop F.type_list_pop mt_popAt good_popAt ho ha fun t t' h h' => pe_bm F.plainAttrs_list F.slot_list_pop F.type_list_pop mt_popAt h h' hbase hfew hline hs hplain
end
/-! ### the tree of facts -/
structure HookX where
  fa : List He.Fa
  fx : List (PySem.W.Frag → Bool)
  fn : List He.DefD
def obsX (h : HookX) (K : PySem.W.Frag) : He.AlD := ((h.fa.all fun f => f.ok K) && (h.fx.all fun f => f K) && h.fn.all fun d => d.ok K, h.fn.map fun d => He.fnW K d.at_)
def valX (h : HookX) : He.AlD := (true, h.fn.map He.DefD.val)
def SaysX (h : HookX) (K : PySem.W.Frag) : Prop := obsX h K = valX h
def obsXG (n : Nat) (h : HookX) (g : Addr → Option Obj) : He.AlD := obsX h (He.frG g (He.asD g n))
def hookX (n : Nat) (h : HookX) : PySem.W.Hook where
  α := He.AlD
  obs := fun s => obsXG n h s.heap.get?
  val := fun _ => valX h
  says := fun _ hp => ∃ K : PySem.W.Frag, K.In hp ∧ SaysX h K
  of := fun _ _ e => ⟨_, He.frG_in, e⟩
  keeps := fun _ _ _ ⟨K, hK, c⟩ k => ⟨K, PySem.W.Frag.In.keeps hK k, c⟩
theorem obsXG_eq {n : Nat} {h : HookX} {g : Addr → Option Obj} {s : Shared} (q : ∀ a, g a = s.heap.get? a) : obsXG n h g = (hookX n h).obs s := by
  have e : g = s.heap.get? := funext q
  rw [e] <;> rfl
section
variable {h : HookX} {K : PySem.W.Frag}
theorem SaysX.says (c : SaysX h K) : He.SaysD h.fa h.fn K := by
  have c0 : ((h.fa.all fun f => f.ok K) && (h.fx.all fun f => f K) && h.fn.all fun d => d.ok K) = true := congrArg (fun z : He.AlD => z.1) c
  have c2 : h.fn.map (fun d => He.fnW K d.at_) = h.fn.map He.DefD.val := congrArg (fun z : He.AlD => z.2) c
  obtain ⟨c3, c4⟩ := He.ba c0
  obtain ⟨c5, c6⟩ := He.ba c3
  show ((h.fa.all fun f => f.ok K) && h.fn.all fun d => d.ok K, h.fn.map fun d => He.fnW K d.at_) = (true, h.fn.map He.DefD.val)
  rw [c5, c4, c2]
  rfl
theorem SaysX.fx (c : SaysX h K) (i : Nat) {f : PySem.W.Frag → Bool} (e : h.fx[i]? = some f := by rfl) : f K = true := by
  have c0 : ((h.fa.all fun f => f.ok K) && (h.fx.all fun f => f K) && h.fn.all fun d => d.ok K) = true := congrArg (fun z : He.AlD => z.1) c
  obtain ⟨c3, c4⟩ := He.ba c0
  obtain ⟨c5, c6⟩ := He.ba c3
  exact List.all_eq_true.mp c6 f (List.mem_of_getElem? e)
end
end PL
end

section
set_option Elab.async false
set_option linter.all false
set_option maxRecDepth 100000
set_option maxHeartbeats 2000000
namespace PL
open PySem PySem.Spec PyProof.Rows L2
theorem bt_bool : bootBuiltins "bool" = some (.type "bool") := by decide +kernel
theorem bt_dict : bootBuiltins "dict" = some (.type "dict") := by decide +kernel
theorem bt_int : bootBuiltins "int" = some (.type "int") := by decide +kernel
theorem bt_list : bootBuiltins "list" = some (.type "list") := by decide +kernel
theorem bt_str : bootBuiltins "str" = some (.type "str") := by decide +kernel
theorem bt_tuple : bootBuiltins "tuple" = some (.type "tuple") := by decide +kernel
theorem u1 {k : Nat} {A : Around} (r : Room k A) : A.units + 1 < cLine := by have := r.units; omega
theorem u0 {k : Nat} {A : Around} (r : Room k A) : A.units < cLine := by have := r.units; omega
theorem gIs_nil {X : Cx} : PGs X [] (gIs []) := pgs_nil
theorem FOk.never {P : Program} {w : World} {K : PySem.W.Frag} {mg : Str → Option Value} {base : Heap} {d : He.DefD} {ps : List Str} {k n : Nat} (F : ∃ fd, FunD K d.name d.qual d.params d.body d.scope (d.dvs K) (d.kws K) (He.fAd K d.at_) fd) (hn : ps.length = n) :
    FOk P w K mg base d k ps n (fun _ _ => .stuck) := by
  obtain ⟨fd, F⟩ := F
  exact ⟨⟨fd, F, ⟨fun vs H Q E h => h.1.trans hn.symm, fun A outer s H args us vs Q E hr e0 hb r ⟨_, _, _, _, _, _, _, _, h⟩ => h.elim⟩⟩, fun ds m h => absurd rfl h⟩

theorem takes0 (X : Cx) : Takes X (fun _ _ _ _ => False) := fun u s' ⟨a, B, sI, pins, σ, H, cls, d, e, I, nb, up, sky, na, os, ag, h⟩ => h.elim
end PL
end

section
set_option Elab.async false
set_option linter.all false
set_option maxRecDepth 100000
set_option maxHeartbeats 2000000
namespace PL
open PySem PySem.Spec PyProof.Rows L2
/-- what is left of a law: its function answers True -/
def Plain (f : Fn) (n : Nat) : Prop := ∀ ns : List Int, ns.length ≤ n → (∀ z ∈ ns, Builtin.Int.intBits z ≤ 1048576) → ∃ s, f [.scr ns] [] = .ok (.d (.bl true)) s
theorem plain_sp {K : PySem.W.Frag} {f : Fn} {n : Nat} (h : Plain f n) {H : Hp} {a : Addr} {ns : List Int} (hl : ns.length ≤ n) (hb : ∀ z ∈ ns, Builtin.Int.intBits z ≤ 1048576) (hs : SqL K H a (ns.map V.int)) :
    spOf K 1 f [.ref a] H (fun v _ => v = .bl true) fun _ _ _ => False := by
  obtain ⟨s, e⟩ := h ns hl hb
  refine ⟨rfl, [.scr ns], [], [], H, fun _ => none, ?_, Reps.one (by unfold Rep; exact ⟨a, rfl, hs⟩), ?_⟩
  · exact ⟨fun _ _ q => q, (fun _ _ q => by cases q), List.nodup_nil, (fun _ q => by cases q), (fun _ q => by cases q), rfl, (fun _ _ q => by simp at q), rfl, (fun _ _ q => by simp at q), (fun _ _ _ _ _ q => by simp at q)⟩
  · rw [e]
    intro b H' ι' P' x S r
    have r : Rep K ι' P' (.bl true) b := r
    unfold Rep at r
    exact r
theorem cx_none {P : Program} {w : World} {H : Hp} {s : Shared} {e : Value} {s' : Shared} (h : L2.CX P w [] H s (fun _ _ _ => False) e s') : False := by
  obtain ⟨_, _, _, _, _, _, _, _, _, _, _, _, z⟩ := h
  exact z
theorem walk_ofP {l : PySem.W.OpenLaw} {n k : Nat} {q : Program} {loose : List Str} {XP : (Str → Option Value) → Heap → Prop} {YP : World → Heap → Prop} {d : DefRec} {x : Str} {f : Fn}
    (hn : l.most = some n) (hn2 : n ≤ sizeLine) (hdf : d.params.defaults = []) (hr : Room k callerA) (hf : Plain f n)
    (F : ∀ (w : World) (mg : Str → Option Value) (fa : Addr) (h : Heap), YP w h → h.Ns mainGlobals mg → mg d.name = some (.ref fa) →
      ∃ (K : PySem.W.Frag) (fd : FuncData), K.In h ∧ (∀ (s : Shared) (u : Value), BindsTo s fd ⟨[u], []⟩ [(x, u)]) ∧
        ∀ base : Heap, K.In base → base.Ns mainGlobals mg → FnOk l.prog w K mg base (L2.CX l.prog w) k fa fd [x] (spOf K 1 f)) :
    PySem.W.WalkO q loose XP YP l.row.toRowW d [] (fun f vs => PySem.call f vs) := by
  refine Att.attach_callB hn hdf fun w s₀ s₁ mg mb fa o pm cd doc a vs ns G Y ho hd hcd hmg hobj hints hlen hbits hg => ?_
  obtain ⟨K, fd, KX, hb, hF⟩ := F w mg fa _ Y G.T.g hmg
  exact law_call KX G.T.g G.T.b G.T.builtins G.T.nolimit hg hobj hints (Nat.le_trans hlen hn2) hr hF hb (fun H hO hS => plain_sp hf hlen hbits hS) fun H e s' => cx_none
theorem FOk.fn {P : Program} {w : World} {K : PySem.W.Frag} {mg : Str → Option Value} {base : Heap} {d : He.DefD} {k n : Nat} {ps : List Str} {fn : Fn} {fd : FuncData} (h : FOk P w K mg base d k ps n fn)
    (lk : ∀ fd', FunD K d.name d.qual d.params d.body d.scope (d.dvs K) (d.kws K) (He.fAd K d.at_) fd' → fd' = fd) : FnOk P w K mg base (L2.CX P w) k (He.fAd K d.at_) fd ps (spOf K n fn) := by
  obtain ⟨⟨fd', F1, F2⟩, _⟩ := h
  rw [← lk fd' F1]
  exact F2
theorem funD_one {K : PySem.W.Frag} {x qual : Str} {params : Arguments} {body : List Stmt} {scope : Scope} {dvs : List V} {kws : List (Str × V)} {f : Addr} {fd fd' : FuncData} (F : FunD K x qual params body scope dvs kws f fd) (F' : FunD K x qual params body scope dvs kws f fd') : fd' = fd := by
  obtain ⟨oc, od, dV, kV, doc, pm, an, cdv, ct, osl, h, lk, _⟩ := F.ex
  obtain ⟨oc', od', dV', kV', doc', pm', an', cdv', ct', osl', h', lk', _⟩ := F'.ex
  rw [lk] at lk'
  cases lk'
  rfl
end PL
end

section
set_option Elab.async false
set_option linter.all false
set_option maxRecDepth 100000
set_option maxHeartbeats 2000000
namespace PL
open PySem PySem.Spec PyProof.Rows L2

/-! ### what a run of a combinator ends with -/
def RP {α : Type} (r : Res α) (Q : α → S → Prop) : Prop := match r with
  | .ok a s => Q a s
  | _ => False
structure KF where
  nx : S → Prop
  rt : Wv → S → Prop
  bk : S → Prop
  ct : S → Prop
def FP (r : Fl) (k : KF) : Prop := match r with
  | .nx s => k.nx s
  | .rt w s => k.rt w s
  | .bk s => k.bk s
  | .ct s => k.ct s
  | _ => False
inductive FnP (f : Fn) (ds : List D) (m : Store) (Q : Wv → Store → Prop) : Prop where
  | intro (w : Wv) (t : Store) (e : f ds m = .ok w ⟨[], t⟩) (h : Q w t)
/-- a call, not to be looked into -/
inductive CallP (f : Fn) (ds : List D) (s : S) (Q : Wv → S → Prop) : Prop where
  | intro (h : RP (callR f ds s) Q)
/-- a comprehension, a loop, not to be looked into -/
inductive CompP (it : S → Res (List D)) (ct : CT) (own : List Nat) (tt : S → Res Bool) (te : S → Res D) (s : S) (Q : Wv → S → Prop) : Prop where
  | intro (h : RP (cComp it ct own tt te s) Q)
inductive CLP (ct : CT) (own : List Nat) (tt : S → Res Bool) (te : S → Res D) (ds : List D) (s : S) (Q : List D → S → Prop) : Prop where
  | intro (h : RP (compL ct own tt te ds s) Q)
inductive ForP (g : Tg) (b : S → Fl) (ds : List D) (s : S) (k : KF) : Prop where
  | intro (h : FP (forL g b ds s) k)
inductive WhileP (c : S → Res Bool) (b : S → Fl) (n : Nat) (s : S) (k : KF) : Prop where
  | intro (h : FP (whileL c b n s) k)
inductive MakeP (C : Str) (ini : Fn) (ds : List D) (s : S) (Q : Wv → S → Prop) : Prop where
  | intro (h : RP (makeR C ini ds s) Q)
theorem callP_iff {f : Fn} {ds : List D} {s : S} {Q : Wv → S → Prop} : RP (callR f ds s) Q ↔ CallP f ds s Q := ⟨.intro, fun h => h.1⟩
section
variable {α β : Type} {a : α} {s : S} {Q Q' : α → S → Prop} {r : Res α} {k : KF} {w : Wv}
@[simp] theorem RP_ok : RP (.ok a s) Q ↔ Q a s := Iff.rfl
@[simp] theorem RP_stuck : RP (.stuck : Res α) Q ↔ False := Iff.rfl
@[simp] theorem RP_bind {r : Res α} {g : α → S → Res β} {Q : β → S → Prop} : RP (r.bind g) Q ↔ RP r fun a s => RP (g a s) Q := by cases r <;> exact Iff.rfl
@[simp] theorem RP_map {r : Res α} {g : α → β} {Q : β → S → Prop} : RP (r.map g) Q ↔ RP r fun a s => Q (g a) s := by cases r <;> exact Iff.rfl
@[simp] theorem RP_lift_some : RP (Res.lift (some a) s) Q ↔ Q a s := Iff.rfl
@[simp] theorem RP_lift_none : RP (Res.lift (none : Option α) s) Q ↔ False := Iff.rfl
@[simp] theorem FP_nx : FP (.nx s) k ↔ k.nx s := Iff.rfl
@[simp] theorem FP_rt : FP (.rt w s) k ↔ k.rt w s := Iff.rfl
@[simp] theorem FP_bk : FP (.bk s) k ↔ k.bk s := Iff.rfl
@[simp] theorem FP_ct : FP (.ct s) k ↔ k.ct s := Iff.rfl
@[simp] theorem FP_stuck : FP .stuck k ↔ False := Iff.rfl
@[simp] theorem FP_fl {g : α → S → Fl} : FP (r.fl g) k ↔ RP r fun a s => FP (g a s) k := by cases r <;> exact Iff.rfl
@[simp] theorem FP_bind {r : Fl} {g : S → Fl} : FP (r.bind g) k ↔ FP r { k with nx := fun s => FP (g s) k } := by cases r <;> exact Iff.rfl
theorem RP.mono (h : RP r Q) (i : ∀ a s, Q a s → Q' a s) : RP r Q' := by cases r <;> first | exact i _ _ h | exact h
theorem RP.ex (h : RP r Q) : ∃ a s, r = .ok a s ∧ Q a s := by cases r <;> first | exact ⟨_, _, rfl, h⟩ | exact h.elim
theorem RP_congr (h : ∀ a s, Q a s ↔ Q' a s) : RP r Q ↔ RP r Q' := by cases r <;> first | exact h _ _ | exact Iff.rfl
theorem FP.mono {r : Fl} {k k' : KF} (h : FP r k) (h1 : ∀ s, k.nx s → k'.nx s) (h2 : ∀ w s, k.rt w s → k'.rt w s) (h3 : ∀ s, k.bk s → k'.bk s) (h4 : ∀ s, k.ct s → k'.ct s) : FP r k' := by
  cases r <;> first | exact h1 _ h | exact h2 _ _ h | exact h3 _ h | exact h4 _ h | exact h
@[simp] theorem RP_ite {c : Prop} [Decidable c] {x y : Res α} : RP (if c then x else y) Q ↔ if c then RP x Q else RP y Q := by by_cases h : c <;> simp [h]
@[simp] theorem FP_ite {c : Prop} [Decidable c] {x y : Fl} : FP (if c then x else y) k ↔ if c then FP x k else FP y k := by by_cases h : c <;> simp [h]
end
section
variable {f : Fn} {ds : List D} {m : Store} {env : PEnv} {Q : Wv → Store → Prop} {n slots : Nat} {b : S → Fl}
theorem FnP.mk (hl : ds.length = n) (h : FP (b ⟨ds.map Sl.d ++ List.replicate (slots - n) .no, m⟩) ⟨fun s => Q (.d .non) s.st, fun w s => Q w s.st, fun _ => False, fun _ => False⟩) : FnP (mkFn n slots b) ds m Q := by
  cases q : b ⟨ds.map Sl.d ++ List.replicate (slots - n) .no, m⟩ with
  | nx s => rw [q] at h; exact ⟨_, _, by unfold mkFn; rw [if_pos hl, q], h⟩
  | rt w s => rw [q] at h; exact ⟨_, _, by unfold mkFn; rw [if_pos hl, q], h⟩
  | bk s => rw [q] at h; exact h.elim
  | ct s => rw [q] at h; exact h.elim
  | err x s => rw [q] at h; exact h.elim
  | stuck => rw [q] at h; exact h.elim
theorem callP {Q : Wv → S → Prop} {Q' : Wv → Store → Prop} (h : FnP f ds m Q') (i : ∀ w t, Q' w t → Q w ⟨env, t⟩) : CallP f ds ⟨env, m⟩ Q := by
  refine ⟨?_⟩
  obtain ⟨w, t, e, h⟩ := h
  unfold callR
  rw [e]
  exact i w t h
theorem FnP.mono {Q' : Wv → Store → Prop} (h : FnP f ds m Q) (i : ∀ w t, Q w t → Q' w t) : FnP f ds m Q' := by
  obtain ⟨w, t, e, h⟩ := h
  exact ⟨w, t, e, i w t h⟩
end
/-! ### the combinators, at a state that is written out -/
def lift2 (g : D → D → Option Wv) (a b : Option D) (s : S) : Res Wv := match a, b with
  | some d1, some d2 => Res.lift (g d1 d2) s
  | _, _ => .stuck
def lift1 (g : D → Option Wv) (a : Option D) (s : S) : Res Wv := match a with
  | some d => Res.lift (g d) s
  | none => .stuck
def liftN (g : List D → Option Wv) (a : Option (List D)) (s : S) : Res Wv := match a with
  | some d => Res.lift (g d) s
  | none => .stuck
def liftM (g : D → List D → Option Wv) (a : Option D) (b : Option (List D)) (s : S) : Res Wv := match a, b with
  | some d, some ds => Res.lift (g d ds) s
  | _, _ => .stuck
section
variable {env : PEnv} {m : Store} {i : Nat} {k : KF}
section
variable {s : S} {g : D → D → Option Wv} {g1 : D → Option Wv} {gN : List D → Option Wv} {gm : D → List D → Option Wv} {d d' : D} {ds : List D}
@[simp] theorem lift2_ : lift2 g (some d) (some d') s = Res.lift (g d d') s := rfl
@[simp] theorem lift1_ : lift1 g1 (some d) s = Res.lift (g1 d) s := rfl
@[simp] theorem liftN_ : liftN gN (some ds) s = Res.lift (gN ds) s := rfl
@[simp] theorem liftM_ : liftM gm (some d) (some ds) s = Res.lift (gm d ds) s := rfl
@[simp] theorem RP_lift_ite {α : Type} {c : Prop} [Decidable c] {a : α} {Q : α → S → Prop} : RP (Res.lift (if c then some a else none) s) Q ↔ c ∧ Q a s := by by_cases h : c <;> simp [h]
@[simp] theorem derf_int {j : Int} : derf s (.int j) = some (.int j) := rfl
@[simp] theorem derf_bl {j : Bool} : derf s (.bl j) = some (.bl j) := rfl
@[simp] theorem derf_str {j : Str} : derf s (.str j) = some (.str j) := rfl
@[simp] theorem derf_non : derf s .non = some .non := rfl
@[simp] theorem derf_tup {j : List D} : derf s (.tup j) = some (.tup j) := rfl
@[simp] theorem derf_kt {j : List D} : derf s (.kt j) = some (.kt j) := rfl
@[simp] theorem derf_lst {j : List D} : derf s (.lst j) = some (.lst j) := rfl
@[simp] theorem derf_scr {j : List Int} : derf s (.scr j) = some (.scr j) := rfl
@[simp] theorem derf_ty {j : String} : derf s (.ty j) = some (.ty j) := rfl
@[simp] theorem derf_cls {j : Str} : derf s (.cls j) = some (.cls j) := rfl
@[simp] theorem derf_ins {C : Str} {fs : List Str} {vs : List D} : derf s (.ins C fs vs) = some (.ins C fs vs) := rfl
@[simp] theorem derf_dK {ks : List Key} {vs : List D} : derf s (.dK ks vs) = some (.dK ks vs) := rfl
@[simp] theorem derf_dT {ks : List (List Key)} {vs : List D} : derf s (.dT ks vs) = some (.dT ks vs) := rfl
@[simp] theorem derf_ref {n : Nat} : derf ⟨env, m⟩ (.ref n) = (m[n]?).map Cell.fz := rfl
@[simp] theorem peek_ : peek ⟨env, m⟩ i = match env[i]? with
  | some (.d d) => derf ⟨env, m⟩ d
  | some (.own c) => some c.fz
  | _ => none := rfl
@[simp] theorem get_v {x : Option D} : (Opd.v i).get x ⟨env, m⟩ = peek ⟨env, m⟩ i := rfl
@[simp] theorem get_e {f : S → Res D} {d : D} : (Opd.e f).get (some d) ⟨env, m⟩ = derf ⟨env, m⟩ d := rfl
@[simp] theorem gets_nil : gets [] [] s = some [] := rfl
@[simp] theorem gets_cons {o : Opd} {os : List Opd} {x : Option D} {xs : List (Option D)} : gets (o :: os) (x :: xs) ⟨env, m⟩ = (o.get x ⟨env, m⟩).bind fun d => (gets os xs ⟨env, m⟩).map (d :: ·) := rfl
@[simp] theorem bl_bl {b : Bool} : (Wv.d (.bl b)).bl? = some b := rfl
@[simp] theorem fz_d {d : D} : (Wv.d d).fz = d := rfl
@[simp] theorem fz_nw {c : Cell} : (Wv.nw c).fz = c.fz := rfl
@[simp] theorem sl_d {d : D} : (Wv.d d).sl = .d d := rfl
@[simp] theorem sl_nw {c : Cell} : (Wv.nw c).sl = .own c := rfl
@[simp] theorem fzl {xs : List D} : (Cell.lst xs).fz = .lst xs := rfl
@[simp] theorem fzK {xs : List (Key × D)} : (Cell.dK xs).fz = .dK (xs.map (·.1)) (xs.map (·.2)) := rfl
@[simp] theorem fzT {xs : List (List Key × D)} : (Cell.dT xs).fz = .dT (xs.map (·.1)) (xs.map (·.2)) := rfl
@[simp] theorem fzI {C : Str} {xs : List (Str × D)} : (Cell.ins C xs).fz = .ins C (xs.map (·.1)) (xs.map (·.2)) := rfl
@[simp] theorem setW_ {w : Wv} : setW i w ⟨env, m⟩ = ⟨env.set i w.sl, m⟩ := rfl
end
section
variable {Q : D → S → Prop} {f : S → Res Wv}
@[simp] theorem RP_cC {d : D} : RP (cC d ⟨env, m⟩) Q ↔ Q d ⟨env, m⟩ := Iff.rfl
@[simp] theorem RP_cVar : RP (cVar i ⟨env, m⟩) Q ↔ match env[i]? with
  | some (.d d) => Q d ⟨env, m⟩
  | some (.own c) => Q c.fz ⟨env.set i (.d c.fz), m⟩
  | _ => False := by
  unfold cVar
  dsimp only
  split <;> rename_i h <;> simp [h]
@[simp] theorem RP_cRef : RP (cRef i ⟨env, m⟩) Q ↔ match env[i]? with
  | some (.d d) => Q d ⟨env, m⟩
  | some (.own c) => Q (.ref m.length) ⟨env.set i (.d (.ref m.length)), m ++ [c]⟩
  | _ => False := by
  unfold cRef
  dsimp only
  split <;> rename_i h <;> simp [h]
@[simp] theorem RP_cFz : RP (cFz f ⟨env, m⟩) Q ↔ RP (f ⟨env, m⟩) fun w s => Q w.fz s := RP_map
@[simp] theorem RP_cSh : RP (cSh f ⟨env, m⟩) Q ↔ RP (f ⟨env, m⟩) fun w s => RP (shW w s) Q := RP_bind
@[simp] theorem RP_shd {d : D} {s : S} : RP (shW (.d d) s) Q ↔ Q d s := Iff.rfl
@[simp] theorem RP_shn {c : Cell} : RP (shW (.nw c) ⟨env, m⟩) Q ↔ Q (.ref m.length) ⟨env, m ++ [c]⟩ := Iff.rfl
end
section
variable {Q : Option D → S → Prop}
@[simp] theorem RP_runv : RP ((Opd.v i).run ⟨env, m⟩) Q ↔ match env[i]? with
  | some (.d _) => Q none ⟨env, m⟩
  | some (.own _) => Q none ⟨env, m⟩
  | _ => False := by
  unfold Opd.run
  dsimp only
  split <;> rename_i h <;> simp [h]
@[simp] theorem RP_rune {f : S → Res D} : RP ((Opd.e f).run ⟨env, m⟩) Q ↔ RP (f ⟨env, m⟩) fun d s => Q (some d) s := RP_map
end
section
variable {Q : Wv → S → Prop} {o o1 o2 : Opd} {os : List Opd} {args kws : S → Res (List D)}
@[simp] theorem RP_cD {f : S → Res D} : RP (cD f ⟨env, m⟩) Q ↔ RP (f ⟨env, m⟩) fun d s => Q (.d d) s := RP_map
@[simp] theorem RP_cOp1 {g : D → Option Wv} : RP (cOp1 g o ⟨env, m⟩) Q ↔ RP (o.run ⟨env, m⟩) fun x s => RP (lift1 g (o.get x s) s) Q := RP_bind
@[simp] theorem RP_cOp2 {g : D → D → Option Wv} : RP (cOp2 g o1 o2 ⟨env, m⟩) Q ↔ RP (o1.run ⟨env, m⟩) fun x1 s1 => RP (o2.run s1) fun x2 s2 => RP (lift2 g (o1.get x1 s2) (o2.get x2 s2) s2) Q := by
  unfold cOp2; rw [RP_bind]
  constructor <;> exact fun h => h.mono fun a s h => by first | (rw [RP_bind] at h; exact h) | (rw [RP_bind]; exact h)
@[simp] theorem RP_cOpN {g : List D → Option Wv} : RP (cOpN g os ⟨env, m⟩) Q ↔ RP (runs os ⟨env, m⟩) fun xs s => RP (liftN g (gets os xs s) s) Q := RP_bind
@[simp] theorem RP_runs_nil {Q : List (Option D) → S → Prop} {s : S} : RP (runs [] s) Q ↔ Q [] s := Iff.rfl
@[simp] theorem RP_runs_cons {Q : List (Option D) → S → Prop} : RP (runs (o :: os) ⟨env, m⟩) Q ↔ RP (o.run ⟨env, m⟩) fun x s => RP (runs os s) fun xs s => Q (x :: xs) s := by
  show RP ((o.run ⟨env, m⟩).bind fun x s1 => (runs os s1).bind fun xs s2 => .ok (x :: xs) s2) Q ↔ _
  rw [RP_bind]; exact RP_congr fun a s => RP_bind
@[simp] theorem RP_cB {QB : Bool → S → Prop} {f : S → Res Wv} : RP (cB f ⟨env, m⟩) QB ↔ RP (f ⟨env, m⟩) fun w s => RP (Res.lift w.bl? s) QB := RP_bind
@[simp] theorem RP_cAnd {QB : Bool → S → Prop} {f g : S → Res Bool} : RP (cAnd f g ⟨env, m⟩) QB ↔ RP (f ⟨env, m⟩) fun b s1 => if b = true then RP (g s1) QB else QB false s1 := by
  unfold cAnd; rw [RP_bind]; constructor <;> (intro h; refine h.mono fun b s1 h => ?_; cases b <;> exact h)
@[simp] theorem RP_cOr {QB : Bool → S → Prop} {f g : S → Res Bool} : RP (cOr f g ⟨env, m⟩) QB ↔ RP (f ⟨env, m⟩) fun b s1 => if b = true then QB true s1 else RP (g s1) QB := by
  unfold cOr; rw [RP_bind]; constructor <;> (intro h; refine h.mono fun b s1 h => ?_; cases b <;> exact h)
@[simp] theorem RP_cNot {QB : Bool → S → Prop} {f : S → Res Bool} : RP (cNot f ⟨env, m⟩) QB ↔ RP (f ⟨env, m⟩) fun b s => QB (!b) s := RP_map
@[simp] theorem RP_cIf {α : Type} {Q : α → S → Prop} {c : S → Res Bool} {f g : S → Res α} : RP (cIf c f g ⟨env, m⟩) Q ↔ RP (c ⟨env, m⟩) fun b s1 => if b = true then RP (f s1) Q else RP (g s1) Q := by
  unfold cIf; rw [RP_bind]; constructor <;> (intro h; refine h.mono fun b s1 h => ?_; cases b <;> exact h)
@[simp] theorem RP_cAndV {f g : S → Res Wv} : RP (cAndV f g ⟨env, m⟩) Q ↔ RP (f ⟨env, m⟩) fun w s1 => RP (Res.lift w.bl? s1) fun b s1 => if b = true then RP (g s1) Q else Q (.d (.bl false)) s1 := by
  unfold cAndV; rw [RP_bind]
  constructor <;> (intro h; refine h.mono fun w s1 h => ?_; cases e : w.bl? with
    | none => rw [e] at h; exact h
    | some b => rw [e] at h; cases b <;> exact h)
@[simp] theorem RP_cOrV {f g : S → Res Wv} : RP (cOrV f g ⟨env, m⟩) Q ↔ RP (f ⟨env, m⟩) fun w s1 => RP (Res.lift w.bl? s1) fun b s1 => if b = true then Q (.d (.bl true)) s1 else RP (g s1) Q := by
  unfold cOrV; rw [RP_bind]
  constructor <;> (intro h; refine h.mono fun w s1 h => ?_; cases e : w.bl? with
    | none => rw [e] at h; exact h
    | some b => rw [e] at h; cases b <;> exact h)
@[simp] theorem RP_cNotV {f : S → Res Wv} : RP (cNotV f ⟨env, m⟩) Q ↔ RP (f ⟨env, m⟩) fun w s1 => RP (Res.lift w.bl? s1) fun b s1 => Q (.d (.bl (!b))) s1 := by
  unfold cNotV; rw [RP_bind]
  constructor <;> (intro h; refine h.mono fun w s1 h => ?_; cases e : w.bl? with
    | none => rw [e] at h; exact h
    | some b => rw [e] at h; exact h)
@[simp] theorem RP_cNil {Q : List D → S → Prop} {s : S} : RP (cNil s) Q ↔ Q [] s := Iff.rfl
@[simp] theorem RP_cCons {Q : List D → S → Prop} {f : S → Res D} {g : S → Res (List D)} : RP (cCons f g ⟨env, m⟩) Q ↔ RP (f ⟨env, m⟩) fun d s => RP (g s) fun ds s => Q (d :: ds) s := by
  unfold cCons; rw [RP_bind]
  constructor <;> exact fun h => h.mono fun a s h => by first | (rw [RP_bind] at h; exact h) | (rw [RP_bind]; exact h)
@[simp] theorem RP_wNil {Q : List Wv → S → Prop} {s : S} : RP (wNil s) Q ↔ Q [] s := Iff.rfl
@[simp] theorem RP_wCons {Q : List Wv → S → Prop} {f : S → Res Wv} {g : S → Res (List Wv)} : RP (wCons f g ⟨env, m⟩) Q ↔ RP (f ⟨env, m⟩) fun d s => RP (g s) fun ds s => Q (d :: ds) s := by
  unfold wCons; rw [RP_bind]
  constructor <;> exact fun h => h.mono fun a s h => by first | (rw [RP_bind] at h; exact h) | (rw [RP_bind]; exact h)
@[simp] theorem RP_cCall {f : Fn} {dfl : List D} : RP (cCall f args dfl ⟨env, m⟩) Q ↔ RP (args ⟨env, m⟩) fun ds s => CallP f (ds ++ dfl) s Q := RP_bind.trans (RP_congr fun _ _ => callP_iff)
@[simp] theorem RP_cCallK {f : Fn} {ps : List Nat} : RP (cCallK f args kws ps ⟨env, m⟩) Q ↔ RP (args ⟨env, m⟩) fun ds s => RP (kws s) fun es s => CallP f (pm ps (ds ++ es)) s Q := by
  unfold cCallK; rw [RP_bind]
  exact RP_congr fun a s => RP_bind.trans (RP_congr fun _ _ => callP_iff)
@[simp] theorem RP_cMake {C : Str} {f : Fn} {dfl : List D} : RP (cMake C f args dfl ⟨env, m⟩) Q ↔ RP (args ⟨env, m⟩) fun ds s => MakeP C f (ds ++ dfl) s Q := RP_bind.trans (RP_congr fun _ _ => ⟨.intro, fun h => h.1⟩)
@[simp] theorem RP_cMakeK {C : Str} {f : Fn} {ps : List Nat} : RP (cMakeK C f args kws ps ⟨env, m⟩) Q ↔ RP (args ⟨env, m⟩) fun ds s => RP (kws s) fun es s => MakeP C f (pm ps (ds ++ es)) s Q := by
  unfold cMakeK; rw [RP_bind]
  exact RP_congr fun a s => RP_bind.trans (RP_congr fun _ _ => ⟨.intro, fun h => h.1⟩)
@[simp] theorem RP_cTup : RP (cTup args ⟨env, m⟩) Q ↔ RP (args ⟨env, m⟩) fun ds s => ds.length ≤ sizeLine ∧ Q (.d (.tup ds)) s := by
  unfold cTup; rw [RP_bind]; constructor <;> (intro h; refine h.mono fun ds s1 h => ?_; by_cases c : ds.length ≤ sizeLine <;> simp_all)
@[simp] theorem RP_cLst : RP (cLst args ⟨env, m⟩) Q ↔ RP (args ⟨env, m⟩) fun ds s => ds.length ≤ sizeLine ∧ Q (.nw (.lst ds)) s := by
  unfold cLst; rw [RP_bind]; constructor <;> (intro h; refine h.mono fun ds s1 h => ?_; by_cases c : ds.length ≤ sizeLine <;> simp_all)
@[simp] theorem RP_cNewK {s : S} : RP (cNewK s) Q ↔ Q (.nw (.dK [])) s := Iff.rfl
def dispT (k v : D) (s : S) : Res Wv := match tkeyOf k with
  | some ks => .ok (.nw (.dT [(ks, v)])) s
  | none => .stuck
@[simp] theorem RP_cDispT {f g : S → Res D} : RP (cDispT f g ⟨env, m⟩) Q ↔ RP (f ⟨env, m⟩) fun k s => RP (g s) fun v s => RP (dispT k v s) Q := by
  unfold cDispT; rw [RP_bind]
  constructor <;> exact fun h => h.mono fun a s h => by first | (rw [RP_bind] at h; exact h) | (rw [RP_bind]; exact h)
def dispK (ps : List (D × D)) (s : S) : Res Wv := match keysOf (ps.map (·.1)) with
  | some ks => if ps.length ≤ 15 then .ok (.nw (.dK (mergeD [] (ks.zip (ps.map (·.2)))))) s else .stuck
  | none => .stuck
@[simp] theorem RP_cDisp {l : List ((S → Res D) × (S → Res D))} : RP (cDisp l ⟨env, m⟩) Q ↔ RP (cPairs l ⟨env, m⟩) fun ps s => RP (dispK ps s) Q := RP_bind
@[simp] theorem RP_cPairs_nil {Q : List (D × D) → S → Prop} {s : S} : RP (cPairs [] s) Q ↔ Q [] s := Iff.rfl
@[simp] theorem RP_cPairs_cons {Q : List (D × D) → S → Prop} {f g : S → Res D} {r : List ((S → Res D) × (S → Res D))} : RP (cPairs ((f, g) :: r) ⟨env, m⟩) Q ↔ RP (f ⟨env, m⟩) fun k s => RP (g s) fun v s => RP (cPairs r s) fun ps s => Q ((k, v) :: ps) s := by
  show RP ((f ⟨env, m⟩).bind fun k s1 => (g s1).bind fun v s2 => (cPairs r s2).bind fun ps s3 => .ok ((k, v) :: ps) s3) Q ↔ _
  rw [RP_bind]; exact RP_congr fun a s => RP_bind.trans (RP_congr fun a s => RP_bind)
def mthA (T : String) (g : D → List D → Option Wv) (o : Opd) (os : List Opd) (x : Option D) (s : S) : Res Wv := if (o.get x s).any (tyD T) = true then ((runs os s).bind fun xs s2 => liftM g (o.get x s2) (gets os xs s2) s2) else .stuck
@[simp] theorem RP_cMth {T : String} {g : D → List D → Option Wv} : RP (cMth T g o os ⟨env, m⟩) Q ↔ RP (o.run ⟨env, m⟩) fun x s => RP (mthA T g o os x s) Q := RP_bind
@[simp] theorem RP_mthA {T : String} {g : D → List D → Option Wv} {x : Option D} : RP (mthA T g o os x ⟨env, m⟩) Q ↔ (o.get x ⟨env, m⟩).any (tyD T) = true ∧ RP (runs os ⟨env, m⟩) fun xs s => RP (liftM g (o.get x s) (gets os xs s) s) Q := by
  unfold mthA
  by_cases c : (o.get x ⟨env, m⟩).any (tyD T) = true
  · rw [if_pos c, RP_bind]; exact ⟨fun h => ⟨c, h⟩, fun h => h.2⟩
  · rw [if_neg c]; exact ⟨fun h => h.elim, fun h => c h.1⟩
def mutE (g : Cell → List D → Option (Cell × D)) (o : Opd) (x : Option D) (ds : List D) (s : S) : Res Wv := match rcell o x s with
  | some c => (match g c ds with
    | some (c', d) => .ok (.d d) (rput o x s c')
    | none => .stuck)
  | none => .stuck
def mutA (T : String) (g : Cell → List D → Option (Cell × D)) (o : Opd) (args : S → Res (List D)) (x : Option D) (s : S) : Res Wv := if (rcell o x s).any (Cell.isT T) = true then (args s).bind fun ds s2 => mutE g o x ds s2 else .stuck
@[simp] theorem RP_cMut {T : String} {g : Cell → List D → Option (Cell × D)} : RP (cMut T o args g ⟨env, m⟩) Q ↔ RP (o.run ⟨env, m⟩) fun x s => RP (mutA T g o args x s) Q := RP_bind
@[simp] theorem RP_mutA {T : String} {g : Cell → List D → Option (Cell × D)} {x : Option D} : RP (mutA T g o args x ⟨env, m⟩) Q ↔ (rcell o x ⟨env, m⟩).any (Cell.isT T) = true ∧ RP (args ⟨env, m⟩) fun ds s => RP (mutE g o x ds s) Q := by
  unfold mutA
  by_cases c : (rcell o x ⟨env, m⟩).any (Cell.isT T) = true
  · rw [if_pos c, RP_bind]; exact ⟨fun h => ⟨c, h⟩, fun h => h.2⟩
  · rw [if_neg c]; exact ⟨fun h => h.elim, fun h => c h.1⟩
@[simp] theorem rcell_v {x : Option D} : rcell (.v i) x ⟨env, m⟩ = match env[i]? with
  | some (.own c) => some c
  | some (.d (.ref n)) => m[n]?
  | _ => none := rfl
@[simp] theorem rput_v {x : Option D} {c : Cell} : rput (.v i) x ⟨env, m⟩ c = match env[i]? with
  | some (.d (.ref n)) => ⟨env, m.set n c⟩
  | _ => ⟨env.set i (.own c), m⟩ := rfl
@[simp] theorem RP_cSl {lo hi : Pt} : RP (cSl o lo hi ⟨env, m⟩) Q ↔ RP (o.run ⟨env, m⟩) fun x s => RP (lo.run s) fun l s => RP (hi.run s) fun u s => RP (lift1 (fun d => gSl d l u) (o.get x s) s) Q := by
  have key : ∀ (x : Option D) (l u : Option Int) (s : S), RP (match o.get x s with
    | some d => Res.lift (gSl d l u) s
    | none => .stuck) Q ↔ RP (lift1 (fun d => gSl d l u) (o.get x s) s) Q := fun x l u s => by cases o.get x s <;> exact Iff.rfl
  unfold cSl
  rw [RP_bind]; exact RP_congr fun a s => RP_bind.trans (RP_congr fun a s => RP_bind.trans (RP_congr fun a s => key _ _ _ _))
@[simp] theorem RP_ptn {Q : Option Int → S → Prop} {s : S} : RP (Pt.none.run s) Q ↔ Q none s := Iff.rfl
def ptI (d : D) (s : S) : Res (Option Int) := match d with
  | .int i => .ok (some i) s
  | _ => .stuck
@[simp] theorem RP_pte {Q : Option Int → S → Prop} {f : S → Res D} : RP ((Pt.e f).run ⟨env, m⟩) Q ↔ RP (f ⟨env, m⟩) fun d s => RP (ptI d s) Q := RP_bind
@[simp] theorem RP_ptI {Q : Option Int → S → Prop} {s : S} {i : Int} : RP (ptI (.int i) s) Q ↔ Q (some i) s := Iff.rfl
@[simp] theorem RP_iSeq {Q : List D → S → Prop} {f : S → Res D} : RP (iSeq f ⟨env, m⟩) Q ↔ RP (f ⟨env, m⟩) fun d s => RP (Res.lift (itemsOf d) s) Q := RP_bind
@[simp] theorem RP_iRng {Q : List D → S → Prop} {g : List D → Option (List D)} : RP (iRng g args ⟨env, m⟩) Q ↔ RP (args ⟨env, m⟩) fun ds s => RP (Res.lift (g ds) s) Q := RP_bind
@[simp] theorem RP_cComp {it : S → Res (List D)} {ct : CT} {own : List Nat} {tt : S → Res Bool} {te : S → Res D} : RP (cComp it ct own tt te ⟨env, m⟩) Q ↔ CompP it ct own tt te ⟨env, m⟩ Q := ⟨.intro, fun h => h.1⟩
@[simp] theorem RP_compL {ct : CT} {own : List Nat} {tt : S → Res Bool} {te : S → Res D} {ds : List D} {s : S} {Q : List D → S → Prop} : RP (compL ct own tt te ds s) Q ↔ CLP ct own tt te ds s Q := ⟨.intro, fun h => h.1⟩
@[simp] theorem RP_cYes {QB : Bool → S → Prop} {s : S} : RP (cYes s) QB ↔ QB true s := Iff.rfl
end
section
variable {f g : S → Fl}
@[simp] theorem FP_sSeq : FP (sSeq f g ⟨env, m⟩) k ↔ FP (f ⟨env, m⟩) ⟨fun s => FP (g s) k, k.rt, k.bk, k.ct⟩ := FP_bind
@[simp] theorem FP_sIf {c : S → Res Bool} : FP (sIf c f g ⟨env, m⟩) k ↔ RP (c ⟨env, m⟩) fun b s1 => if b = true then FP (f s1) k else FP (g s1) k := by
  unfold sIf; rw [FP_fl]; constructor <;> (intro h; refine h.mono fun b s1 h => ?_; cases b <;> exact h)
@[simp] theorem FP_sSet {f : S → Res Wv} : FP (sSet i f ⟨env, m⟩) k ↔ RP (f ⟨env, m⟩) fun w s => k.nx (setW i w s) := FP_fl
@[simp] theorem FP_sRet {f : S → Res Wv} : FP (sRet f ⟨env, m⟩) k ↔ RP (f ⟨env, m⟩) fun w s => k.rt w s := FP_fl
@[simp] theorem FP_sRetN {s : S} : FP (sRetN s) k ↔ k.rt (.d .non) s := Iff.rfl
@[simp] theorem FP_sRetV : FP (sRetV i ⟨env, m⟩) k ↔ match env[i]? with
  | some (.d d) => k.rt (.d d) ⟨env, m⟩
  | some (.own c) => k.rt (.nw c) ⟨env.set i .no, m⟩
  | _ => False := by
  unfold sRetV
  dsimp only
  split <;> rename_i h <;> simp [h]
@[simp] theorem FP_sExpr {f : S → Res Wv} : FP (sExpr f ⟨env, m⟩) k ↔ RP (f ⟨env, m⟩) fun _ s => k.nx s := FP_fl
@[simp] theorem FP_sPass {s : S} : FP (sPass s) k ↔ k.nx s := Iff.rfl
@[simp] theorem FP_sBreak {s : S} : FP (sBreak s) k ↔ k.bk s := Iff.rfl
@[simp] theorem FP_sCont {s : S} : FP (sCont s) k ↔ k.ct s := Iff.rfl
@[simp] theorem FP_sNever {s : S} : FP (sNever s) k ↔ False := Iff.rfl
@[simp] theorem FP_sFor {it : S → Res (List D)} {g : Tg} : FP (sFor it g f ⟨env, m⟩) k ↔ RP (it ⟨env, m⟩) fun ds s => ForP g f ds s k := FP_fl.trans (RP_congr fun _ _ => ⟨.intro, fun h => h.1⟩)
@[simp] theorem FP_sWhile {n : Nat} {c : S → Res Bool} : FP (sWhile n c f ⟨env, m⟩) k ↔ WhileP c f n ⟨env, m⟩ k := ⟨.intro, fun h => h.1⟩
def unpE (g : Tg) (d : D) (s : S) : Fl := match g d s with
  | some s2 => .nx s2
  | none => .stuck
@[simp] theorem FP_sUnp {f : S → Res D} {g : Tg} : FP (sUnp f g ⟨env, m⟩) k ↔ RP (f ⟨env, m⟩) fun d s => FP (unpE g d s) k := FP_fl
@[simp] theorem FP_unp {gs : List Tg} {ds : List D} : FP (unpE (gT gs) (.tup ds) ⟨env, m⟩) k ↔ match gAll gs ds ⟨env, m⟩ with
  | some s => k.nx s
  | none => False := by
  unfold unpE
  show FP (match gAll gs ds ⟨env, m⟩ with
    | some s2 => .nx s2
    | none => .stuck) k ↔ _
  cases gAll gs ds ⟨env, m⟩ <;> exact Iff.rfl
@[simp] theorem gAll_nil {s : S} : gAll [] [] s = some s := rfl
@[simp] theorem gAll_cons {g : Tg} {gs : List Tg} {d : D} {ds : List D} {s : S} : gAll (g :: gs) (d :: ds) s = (g d s).bind (gAll gs ds) := rfl
@[simp] theorem gN_ {d : D} : gN i d ⟨env, m⟩ = some ⟨env.set i (.d d), m⟩ := rfl
def parE (is : List Nat) (ws : List Wv) (s : S) : Fl := match setWs is ws s with
  | some s2 => .nx s2
  | none => .stuck
@[simp] theorem FP_sPar {is : List Nat} {f : S → Res (List Wv)} : FP (sPar is f ⟨env, m⟩) k ↔ RP (f ⟨env, m⟩) fun ws s => FP (parE is ws s) k := FP_fl
@[simp] theorem FP_par {is : List Nat} {ws : List Wv} : FP (parE is ws ⟨env, m⟩) k ↔ match setWs is ws ⟨env, m⟩ with
  | some s => k.nx s
  | none => False := by
  unfold parE
  cases setWs is ws ⟨env, m⟩ <;> exact Iff.rfl
def putE (o : Opd) (x : Option D) (d i : D) (s : S) : Fl := match rcell o x s with
  | some c => (match gPut c i d with
    | some c' => .nx (rput o x s c')
    | none => .stuck)
  | none => .stuck
@[simp] theorem FP_sPut {fv fi : S → Res D} {o : Opd} : FP (sPut fv o fi ⟨env, m⟩) k ↔ RP (fv ⟨env, m⟩) fun d s => RP (o.run s) fun x s => RP (fi s) fun i s => FP (putE o x d i s) k := by
  unfold sPut
  rw [FP_fl]; exact RP_congr fun a s => FP_fl.trans (RP_congr fun a s => FP_fl)
def augE (i : Nat) (g : D → D → Option Wv) (d y : D) (s : S) : Fl := match g d y with
  | some w => .nx (setW i w s)
  | none => .stuck
@[simp] theorem FP_sAug {g : D → D → Option Wv} {f : S → Res D} : FP (sAug i g f ⟨env, m⟩) k ↔ match env[i]? with
  | some (.d d) => RP (f ⟨env, m⟩) fun y s => FP (augE i g d y s) k
  | _ => False := by
  unfold sAug
  dsimp only
  split <;> rename_i h
  · simp only [h, FP_fl]; exact Iff.rfl
  · simp [h]
end
end
/-! ### loops -/
theorem forP0 {g : Tg} {b : S → Fl} {k : KF} (I : List D → S → Prop) (hs : ∀ d ds s, I (d :: ds) s → ∃ s1, g d s = some s1 ∧ FP (b s1) ⟨I ds, k.rt, k.nx, I ds⟩) (he : ∀ s, I [] s → k.nx s) : ∀ (ds : List D) (s : S), I ds s → FP (forL g b ds s) k
  | [], s, h => he s h
  | d :: ds, s, h => by
    obtain ⟨s1, e, h1⟩ := hs d ds s h
    unfold forL
    rw [e]
    dsimp only
    cases q : b s1 with
    | nx s2 => rw [q] at h1; exact forP0 I hs he ds s2 h1
    | ct s2 => rw [q] at h1; exact forP0 I hs he ds s2 h1
    | bk s2 => rw [q] at h1; exact h1
    | rt w s2 => rw [q] at h1; exact h1
    | err x s2 => rw [q] at h1; exact h1
    | stuck => rw [q] at h1; exact h1
theorem whileP0 {c : S → Res Bool} {b : S → Fl} {k : KF} (I : Nat → S → Prop) (hs : ∀ n s, I n s → RP (c s) fun t s1 => if t = true then ∃ j, n = j + 1 ∧ FP (b s1) ⟨I j, k.rt, k.nx, I j⟩ else k.nx s1) : ∀ (n N : Nat) (s : S), n < N → I n s → FP (whileL c b N s) k
  | n, 0, s, hn, h => by omega
  | n, N + 1, s, hn, h => by
    unfold whileL
    rw [FP_fl]
    refine (hs n s h).mono fun t s1 h1 => ?_
    cases t with
    | false => exact h1
    | true =>
      rw [if_pos rfl] at h1 ⊢
      obtain ⟨j, rfl, h1⟩ := h1
      cases q : b s1 with
      | nx s2 => rw [q] at h1; exact whileP0 I hs j N s2 (by omega) h1
      | ct s2 => rw [q] at h1; exact whileP0 I hs j N s2 (by omega) h1
      | bk s2 => rw [q] at h1; exact h1
      | rt w s2 => rw [q] at h1; exact h1
      | err x s2 => rw [q] at h1; exact h1
      | stuck => rw [q] at h1; exact h1
/-- a comprehension: E the environment with its own slots wiped -/
theorem compP0 {ct : CT} {own : List Nat} {tt : S → Res Bool} {te : S → Res D} {E : PEnv} (I : List D → List D → Store → Prop)
    (hs : ∀ d ds acc m, I (d :: ds) acc m → ∃ s1, ct.put d ⟨E, m⟩ = some s1 ∧ RP (tt s1) fun t s2 => if t = true then RP (te s2) fun y s3 => wipeS own s3 = ⟨E, s3.st⟩ ∧ I ds (acc ++ [y]) s3.st else wipeS own s2 = ⟨E, s2.st⟩ ∧ I ds acc s2.st) :
    ∀ (ds acc : List D) (s : S), wipeS own s = ⟨E, s.st⟩ → I ds acc s.st → RP (compL ct own tt te ds s) fun ys s' => ∃ m, s' = ⟨E, m⟩ ∧ I [] (acc ++ ys) m
  | [], acc, s, hw, h => by
    unfold compL
    exact ⟨s.st, hw, by simpa using h⟩
  | d :: ds, acc, s, hw, h => by
    obtain ⟨s1, e, h1⟩ := hs d ds acc s.st h
    unfold compL
    rw [hw, e]
    dsimp only
    obtain ⟨t, s2, e2, h2⟩ := h1.ex
    rw [e2]
    cases t with
    | false =>
      rw [if_neg (by decide)] at h2
      exact compP0 I hs ds acc s2 h2.1 h2.2
    | true =>
      rw [if_pos rfl] at h2
      obtain ⟨y, s3, e3, h3⟩ := h2.ex
      dsimp only
      rw [e3]
      dsimp only
      obtain ⟨ys, s4, e4, h4⟩ := (compP0 I hs ds (acc ++ [y]) s3 h3.1 h3.2).ex
      rw [e4]
      obtain ⟨m, rfl, h5⟩ := h4
      exact ⟨m, rfl, by simpa using h5⟩
theorem compC0 {it : S → Res (List D)} {ct : CT} {own : List Nat} {tt : S → Res Bool} {te : S → Res D} {s : S} {Q : Wv → S → Prop}
    (h : RP (it s) fun ds s1 => ds.length ≤ sizeLine ∧ (own.all fun i => !(s1.env.getD i .no).isOwn) = true ∧ RP (compL ct own tt te ds s1) fun ys s2 => Q (.nw (.lst ys)) (backS own s1 s2)) : RP (cComp it ct own tt te s) Q := by
  unfold cComp
  rw [RP_bind]
  refine h.mono fun ds s1 h => ?_
  rw [if_pos ⟨h.1, h.2.1⟩]
  obtain ⟨ys, s2, e, h2⟩ := h.2.2.ex
  rw [e]
  exact h2
/-- .. each item by h, nothing changed -/
theorem compM0 {ct : CT} {own : List Nat} {tt : S → Res Bool} {te : S → Res D} {E : PEnv} {m : Store} {h : D → D} {ds : List D} {s : S} (hw : wipeS own s = ⟨E, m⟩)
    (hs : ∀ d ∈ ds, ∃ s1, ct.put d ⟨E, m⟩ = some s1 ∧ RP (tt s1) fun t s2 => t = true ∧ RP (te s2) fun y s3 => y = h d ∧ wipeS own s3 = ⟨E, m⟩) : RP (compL ct own tt te ds s) fun ys s' => ys = ds.map h ∧ s' = ⟨E, m⟩ := by
  induction ds generalizing s with
  | nil => exact ⟨rfl, hw⟩
  | cons d ds ih =>
    obtain ⟨s1, e, h1⟩ := hs d (List.mem_cons_self ..)
    unfold compL
    rw [hw, e]
    dsimp only
    obtain ⟨t, s2, e2, rfl, h2⟩ := h1.ex
    rw [e2]
    obtain ⟨y, s3, e3, rfl, h3⟩ := h2.ex
    dsimp only
    rw [e3]
    dsimp only
    obtain ⟨ys, s4, e4, rfl, rfl⟩ := (ih h3 fun d hd => hs d (List.mem_cons_of_mem _ hd)).ex
    rw [e4]
    exact ⟨rfl, rfl⟩
/-- .. those with p d only, each by h -/
theorem compF0 {ct : CT} {own : List Nat} {tt : S → Res Bool} {te : S → Res D} {E : PEnv} {m : Store} {p : D → Bool} {h : D → D} {ds : List D} {s : S} (hw : wipeS own s = ⟨E, m⟩)
    (hs : ∀ d ∈ ds, ∃ s1, ct.put d ⟨E, m⟩ = some s1 ∧ RP (tt s1) fun t s2 => t = p d ∧ wipeS own s2 = ⟨E, m⟩ ∧ (p d = true → RP (te s2) fun y s3 => y = h d ∧ wipeS own s3 = ⟨E, m⟩)) : RP (compL ct own tt te ds s) fun ys s' => ys = (ds.filter p).map h ∧ s' = ⟨E, m⟩ := by
  induction ds generalizing s with
  | nil => exact ⟨rfl, hw⟩
  | cons d ds ih =>
    obtain ⟨s1, e, h1⟩ := hs d (List.mem_cons_self ..)
    unfold compL
    rw [hw, e]
    dsimp only
    obtain ⟨t, s2, e2, rfl, h0, h2⟩ := h1.ex
    rw [e2]
    cases q : p d with
    | false =>
      rw [List.filter_cons_of_neg (by rw [q]; decide)]
      exact ih h0 fun d hd => hs d (List.mem_cons_of_mem _ hd)
    | true =>
      obtain ⟨y, s3, e3, rfl, h3⟩ := (h2 q).ex
      dsimp only
      rw [e3]
      dsimp only
      obtain ⟨ys, s4, e4, rfl, rfl⟩ := (ih h3 fun d hd => hs d (List.mem_cons_of_mem _ hd)).ex
      rw [e4, List.filter_cons_of_pos q]
      exact ⟨rfl, rfl⟩
theorem CLP.mono {ct : CT} {own : List Nat} {tt : S → Res Bool} {te : S → Res D} {ds : List D} {s : S} {Q Q' : List D → S → Prop} (h : CLP ct own tt te ds s Q) (i : ∀ ys s, Q ys s → Q' ys s) : CLP ct own tt te ds s Q' := ⟨h.1.mono i⟩
theorem forP {g : Tg} {b : S → Fl} {k : KF} (I : List D → S → Prop) (hs : ∀ d ds s, I (d :: ds) s → ∃ s1, g d s = some s1 ∧ FP (b s1) ⟨I ds, k.rt, k.nx, I ds⟩) (he : ∀ s, I [] s → k.nx s) (ds : List D) (s : S) (h : I ds s) : ForP g b ds s k := ⟨forP0 I hs he ds s h⟩
theorem whileP {c : S → Res Bool} {b : S → Fl} {k : KF} (I : Nat → S → Prop) (hs : ∀ n s, I n s → RP (c s) fun t s1 => if t = true then ∃ j, n = j + 1 ∧ FP (b s1) ⟨I j, k.rt, k.nx, I j⟩ else k.nx s1) (n N : Nat) (s : S) (hn : n < N) (h : I n s) : WhileP c b N s k := ⟨whileP0 I hs n N s hn h⟩
theorem compP {ct : CT} {own : List Nat} {tt : S → Res Bool} {te : S → Res D} {E : PEnv} (I : List D → List D → Store → Prop)
    (hs : ∀ d ds acc m, I (d :: ds) acc m → ∃ s1, ct.put d ⟨E, m⟩ = some s1 ∧ RP (tt s1) fun t s2 => if t = true then RP (te s2) fun y s3 => wipeS own s3 = ⟨E, s3.st⟩ ∧ I ds (acc ++ [y]) s3.st else wipeS own s2 = ⟨E, s2.st⟩ ∧ I ds acc s2.st)
    (ds acc : List D) (s : S) (hw : wipeS own s = ⟨E, s.st⟩) (h : I ds acc s.st) : CLP ct own tt te ds s fun ys s' => ∃ m, s' = ⟨E, m⟩ ∧ I [] (acc ++ ys) m := ⟨compP0 I hs ds acc s hw h⟩
theorem compC {it : S → Res (List D)} {ct : CT} {own : List Nat} {tt : S → Res Bool} {te : S → Res D} {s : S} {Q : Wv → S → Prop}
    (h : RP (it s) fun ds s1 => ds.length ≤ sizeLine ∧ (own.all fun i => !(s1.env.getD i .no).isOwn) = true ∧ CLP ct own tt te ds s1 fun ys s2 => Q (.nw (.lst ys)) (backS own s1 s2)) : CompP it ct own tt te s Q :=
  ⟨compC0 (h.mono fun _ _ h => ⟨h.1, h.2.1, h.2.2.1⟩)⟩
theorem compM {ct : CT} {own : List Nat} {tt : S → Res Bool} {te : S → Res D} {E : PEnv} {m : Store} {h : D → D} {ds : List D} {s : S} (hw : wipeS own s = ⟨E, m⟩)
    (hs : ∀ d ∈ ds, ∃ s1, ct.put d ⟨E, m⟩ = some s1 ∧ RP (tt s1) fun t s2 => t = true ∧ RP (te s2) fun y s3 => y = h d ∧ wipeS own s3 = ⟨E, m⟩) : CLP ct own tt te ds s fun ys s' => ys = ds.map h ∧ s' = ⟨E, m⟩ := ⟨compM0 hw hs⟩
theorem compF {ct : CT} {own : List Nat} {tt : S → Res Bool} {te : S → Res D} {E : PEnv} {m : Store} {p : D → Bool} {h : D → D} {ds : List D} {s : S} (hw : wipeS own s = ⟨E, m⟩)
    (hs : ∀ d ∈ ds, ∃ s1, ct.put d ⟨E, m⟩ = some s1 ∧ RP (tt s1) fun t s2 => t = p d ∧ wipeS own s2 = ⟨E, m⟩ ∧ (p d = true → RP (te s2) fun y s3 => y = h d ∧ wipeS own s3 = ⟨E, m⟩)) : CLP ct own tt te ds s fun ys s' => ys = (ds.filter p).map h ∧ s' = ⟨E, m⟩ := ⟨compF0 hw hs⟩
end PL
end

section
set_option Elab.async false
set_option linter.all false
set_option maxRecDepth 100000
set_option maxHeartbeats 2000000
namespace PL
open PySem PySem.Spec PyProof.Rows L2
/-! ### operations at written out values -/
section
variable {i j : Int} {C : Int → Int → Bool} {f : Int → Int → Int} {fb : Int → Int → Bool} {x y : Str} {xs ys : List D} {d d' : D}
@[simp] theorem gI2_ : gI2 C f (.int i) (.int j) = if C i j = true then some (.d (.int (f i j))) else none := rfl
@[simp] theorem gB2_ : gB2 fb (.int i) (.int j) = some (.d (.bl (fb i j))) := rfl
@[simp] theorem gAdd_int : gAdd (.int i) (.int j) = some (.d (.int (i + j))) := rfl
@[simp] theorem gAdd_str : gAdd (.str x) (.str y) = if x.length + y.length ≤ sizeLine then some (.d (.str (x ++ y))) else none := rfl
@[simp] theorem gAdd_lst : gAdd (.lst xs) (.lst ys) = if xs.length + ys.length ≤ sizeLine then some (.nw (.lst (xs ++ ys))) else none := rfl
@[simp] theorem gAdd_tup : gAdd (.tup xs) (.tup ys) = if xs.length + ys.length ≤ sizeLine then some (.d (if xs.isEmpty then .tup ys else if ys.isEmpty then .tup xs else .tup (xs ++ ys))) else none := rfl
@[simp] theorem gAdd0_int : gAdd0 (.int i) (.int j) = some (.d (.int (i + j))) := rfl
@[simp] theorem gNeg_int : gNeg (.int i) = some (.d (.int (-i))) := rfl
@[simp] theorem gIx_lst : gIx (.lst xs) (.int i) = (atI xs i).map Wv.d := rfl
@[simp] theorem gIx_tup : gIx (.tup xs) (.int i) = (atI xs i).map Wv.d := rfl
@[simp] theorem gIx_kt : gIx (.kt xs) (.int i) = (atI xs i).map Wv.d := rfl
@[simp] theorem gIx_scr {ns : List Int} : gIx (.scr ns) (.int i) = (atI (ns.map D.int) i).map Wv.d := rfl
@[simp] theorem gIx_str : gIx (.str x) (.int i) = if x.length ≤ sizeLine then (atI x.cps.toList i).map fun c => .d (.str ⟨#[c]⟩) else none := rfl
@[simp] theorem gIx_dK {ks : List Key} {vs : List D} : gIx (.dK ks vs) d = (keyOf d).bind fun k => (findK k ks vs).map Wv.d := by cases d <;> rfl
@[simp] theorem gIx_dT {ks : List (List Key)} {vs : List D} : gIx (.dT ks vs) d = (tkeyOf d).bind fun k => (findK k ks vs).map Wv.d := by cases d <;> rfl
@[simp] theorem atI0 {α : Type} {a : α} {l : List α} : atI (a :: l) 0 = some a := by simp [atI, ixN]
@[simp] theorem atI1 {α : Type} {a b : α} {l : List α} : atI (a :: b :: l) 1 = some b := by
  unfold atI ixN; rw [if_pos (by decide), if_pos (by simp; omega)]; rfl
@[simp] theorem atI2 {α : Type} {a b c : α} {l : List α} : atI (a :: b :: c :: l) 2 = some c := by
  unfold atI ixN; rw [if_pos (by decide), if_pos (by simp; omega)]; rfl
@[simp] theorem atI3 {α : Type} {a b c e : α} {l : List α} : atI (a :: b :: c :: e :: l) 3 = some e := by
  unfold atI ixN; rw [if_pos (by decide), if_pos (by simp; omega)]; rfl
theorem atI_k {α : Type} {l : List α} {k : Nat} : atI l (k : Int) = l[k]? := by
  unfold atI ixN
  rw [if_pos (by omega)]
  by_cases h : (k : Int) < l.length
  · rw [if_pos h]; simp
  · rw [if_neg h, List.getElem?_eq_none (by omega)]; rfl
theorem atI_pos {α : Type} {l : List α} {i : Int} (h : 0 ≤ i) : atI l i = l[i.toNat]? := by
  obtain ⟨k, rfl⟩ := Int.eq_ofNat_of_zero_le h
  rw [atI_k]; rfl
theorem atI_neg1 {α : Type} {l : List α} : atI l (-1) = l[l.length - 1]? := by
  unfold atI ixN
  rw [if_neg (by decide)]
  cases l with
  | nil => rfl
  | cons a l =>
    rw [if_pos (by simp; omega)]
    simp only [Option.bind_some, List.length_cons]
    congr 1
    omega
@[simp] theorem gInt_int : gInt [.int i] = some (.d (.int i)) := rfl
@[simp] theorem gInt_bl {b : Bool} : gInt [.bl b] = some (.d (.int (if b then 1 else 0))) := rfl
@[simp] theorem gAbs_ : gAbs [.int i] = some (.d (.int (if i < 0 then -i else i))) := rfl
@[simp] theorem gMin2_ : gMin2 [.int i, .int j] = some (.d (.int (if j < i then j else i))) := rfl
@[simp] theorem gMax2_ : gMax2 [.int i, .int j] = some (.d (.int (if j > i then j else i))) := rfl
@[simp] theorem gLen_str : gLen [.str x] = if x.length ≤ sizeLine then some (.d (.int x.length)) else none := rfl
@[simp] theorem gLen_lst : gLen [.lst xs] = some (.d (.int xs.length)) := rfl
@[simp] theorem gLen_tup : gLen [.tup xs] = some (.d (.int xs.length)) := rfl
@[simp] theorem gLen_kt : gLen [.kt xs] = some (.d (.int xs.length)) := rfl
@[simp] theorem gLen_scr {ns : List Int} : gLen [.scr ns] = some (.d (.int ns.length)) := by
  show (some (ns.map D.int)).map (fun xs : List D => Wv.d (.int xs.length)) = _
  simp
@[simp] theorem gLen_dK {ks : List Key} {vs : List D} : gLen [.dK ks vs] = some (.d (.int ks.length)) := rfl
@[simp] theorem gLen_dT {ks : List (List Key)} {vs : List D} : gLen [.dT ks vs] = some (.d (.int ks.length)) := rfl
@[simp] theorem gPut_lst {v : D} : gPut (.lst xs) (.int i) v = (ixN xs.length i).map fun j => .lst (xs.set j v) := rfl
@[simp] theorem gPut_dK {kvs : List (Key × D)} {v : D} : gPut (.dK kvs) d v = (keyOf d).bind fun k => if kvs.length < sizeLine then some (.dK (putKV kvs k v)) else none := by cases d <;> rfl
@[simp] theorem gPut_dT {kvs : List (List Key × D)} {v : D} : gPut (.dT kvs) d v = (tkeyOf d).bind fun k => if kvs.length < sizeLine then some (.dT (putKV kvs k v)) else none := by cases d <;> rfl
@[simp] theorem gAppend_ : gAppend (.lst xs) [d] = if xs.length < sizeLine then some (.lst (xs ++ [d]), .non) else none := rfl
@[simp] theorem gTup_lst : gTupleS [.lst xs] = some (.d (.tup xs)) := rfl
@[simp] theorem gTup_tup : gTupleS [.tup xs] = some (.d (.tup xs)) := rfl
@[simp] theorem gTup_str : gTupleS [.str x] = if x.length ≤ sizeLine then some (.d (.tup (signs x))) else none := rfl
@[simp] theorem gSl_str {lo hi : Option Int} : gSl (.str x) lo hi = if x.length ≤ sizeLine then some (.d (.str (cutS x lo hi))) else none := rfl
@[simp] theorem gSl_lst {lo hi : Option Int} : gSl (.lst xs) lo hi = some (.nw (.lst (cutD xs lo hi))) := rfl
@[simp] theorem gSl_scr {lo hi : Option Int} {ns : List Int} : gSl (.scr ns) lo hi = some (.nw (.lst (cutD (ns.map D.int) lo hi))) := rfl
@[simp] theorem gSl_tup {lo hi : Option Int} : gSl (.tup xs) lo hi = some (.d (if HT.sIx xs.length 0 lo = 0 ∧ HT.sIx xs.length xs.length hi = xs.length then .tup xs else .tup (cutD xs lo hi))) := rfl
@[simp] theorem gRng1_ : gRng1 [.int i] = if -(2 ^ 62) ≤ i ∧ i < 2 ^ 62 then some (upTo 0 i.toNat) else none := rfl
@[simp] theorem keyOf_int : keyOf (.int i) = some (.inl i) := rfl
@[simp] theorem keyOf_str : keyOf (.str x) = some (.inr x) := rfl
@[simp] theorem items_lst : itemsOf (.lst xs) = some xs := rfl
@[simp] theorem items_tup : itemsOf (.tup xs) = some xs := rfl
@[simp] theorem items_str : itemsOf (.str x) = some (signs x) := rfl
@[simp] theorem gEq_int : gEq (.int i) (.int j) = some (.d (.bl (decide (i = j)))) := rfl
@[simp] theorem gEq_str : gEq (.str x) (.str y) = some (.d (.bl (decide (x = y)))) := rfl
@[simp] theorem gEq_bl {a b : Bool} : gEq (.bl a) (.bl b) = some (.d (.bl (decide (a = b)))) := rfl
@[simp] theorem gNe_int : gNe (.int i) (.int j) = some (.d (.bl (!decide (i = j)))) := rfl
@[simp] theorem gNe_str : gNe (.str x) (.str y) = some (.d (.bl (!decide (x = y)))) := rfl
@[simp] theorem gNe_bl {a b : Bool} : gNe (.bl a) (.bl b) = some (.d (.bl (!decide (a = b)))) := rfl
@[simp] theorem gSum_scr {ns : List Int} : gSum [.lst (ns.map D.int)] = some (.d (.int ns.sum)) := by
  have : ∀ l : List Int, intsOf (l.map D.int) = some l := by
    intro l
    induction l with
    | nil => rfl
    | cons a l ih => show (intsOf (l.map D.int)).map (a :: ·) = _; rw [ih]; rfl
  show (intsOf (ns.map D.int)).map _ = _
  rw [this]; rfl
@[simp] theorem isT_lst : (Cell.lst xs).isT "list" = true := rfl
@[simp] theorem tyD_str : tyD "str" (.str x) = true := rfl
@[simp] theorem tyD_lst : tyD "list" (.lst xs) = true := rfl
end
section
variable {env : PEnv} {m : Store} {k : KF} {o : Opd} {x : Option D} {i : Nat}
@[simp] theorem FP_putE {d j : D} : FP (putE o x d j ⟨env, m⟩) k ↔ match rcell o x ⟨env, m⟩ with
  | some c => (match gPut c j d with
    | some c' => k.nx (rput o x ⟨env, m⟩ c')
    | none => False)
  | none => False := by
  unfold putE
  cases rcell o x ⟨env, m⟩ with
  | none => exact Iff.rfl
  | some c => dsimp only; cases gPut c j d <;> exact Iff.rfl
@[simp] theorem FP_augE {g : D → D → Option Wv} {d y : D} {s : S} : FP (augE i g d y s) k ↔ match g d y with
  | some w => k.nx (setW i w s)
  | none => False := by
  unfold augE
  cases g d y <;> exact Iff.rfl
@[simp] theorem RP_mutE {Q : Wv → S → Prop} {g : Cell → List D → Option (Cell × D)} {ds : List D} : RP (mutE g o x ds ⟨env, m⟩) Q ↔ match rcell o x ⟨env, m⟩ with
  | some c => (match g c ds with
    | some (c', d) => Q (.d d) (rput o x ⟨env, m⟩ c')
    | none => False)
  | none => False := by
  unfold mutE
  cases rcell o x ⟨env, m⟩ with
  | none => exact Iff.rfl
  | some c => dsimp only; rcases g c ds with _ | ⟨c', d⟩ <;> exact Iff.rfl
@[simp] theorem RP_dispT {Q : Wv → S → Prop} {a v : D} {s : S} : RP (dispT a v s) Q ↔ match tkeyOf a with
  | some ks => Q (.nw (.dT [(ks, v)])) s
  | none => False := by
  unfold dispT
  cases tkeyOf a <;> exact Iff.rfl
@[simp] theorem ixN0 {n : Nat} (h : 0 < n) : ixN n 0 = some 0 := by unfold ixN; rw [if_pos (by decide), if_pos (by omega)]; rfl
@[simp] theorem setWs_nil {s : S} : setWs [] [] s = some s := rfl
@[simp] theorem setWs_cons {is : List Nat} {w : Wv} {ws : List Wv} {s : S} : setWs (i :: is) (w :: ws) s = setWs is ws (setW i w s) := rfl
end
theorem get_set {m : Store} {n : Nat} {c c0 : Cell} (h : m[n]? = some c0) : (m.set n c)[n]? = some c := by
  have := (List.getElem?_eq_some_iff.mp h).1
  simp [this]
theorem cmul_small {i j : Int} (h : -(2 ^ 64) < i ∧ i < 2 ^ 64) : CMulB i j = true := by unfold CMulB; simp; left; exact h
theorem cmul_small' {i j : Int} (h : -(2 ^ 64) < j ∧ j < 2 ^ 64) : CMulB i j = true := by unfold CMulB; simp; right; exact h
@[simp] theorem gMul_int {i j : Int} : gMul (.int i) (.int j) = if CMulB i j = true then some (.d (.int (i * j))) else none := rfl
@[simp] theorem gMul_str {x : Str} {n : Int} : gMul (.str x) (.int n) = if x.length ≤ 4096 ∧ -(2 ^ 63) ≤ n ∧ n ≤ 4096 then some (.d (.str (Txt.mul x n))) else none := rfl
@[simp] theorem gMul_lst {xs : List D} {n : Int} : gMul (.lst xs) (.int n) = if (-(2 ^ 63) ≤ n ∧ n < 2 ^ 63) ∧ xs.length * n.toNat ≤ sizeLine then some (.nw (.lst (List.replicate n.toNat xs).flatten)) else none := rfl
end PL
end

section
set_option Elab.async false
set_option linter.all false
set_option maxRecDepth 100000
set_option maxHeartbeats 2000000
namespace PL
open PySem PySem.Spec PyProof.Rows L2
/-! ### texts as lists of codes -/
abbrev Wd := List Nat
def st (w : Wd) : Str := ⟨w.toArray⟩
abbrev sD (w : Wd) : D := .str (st w)
section
variable {u v w : Wd} {x : Str}
@[simp] theorem st_len : (st w).length = w.length := by simp [st, Str.length]
@[simp] theorem st_size : (st w).cps.size = w.length := by simp [st]
@[simp] theorem st_cps : (st w).cps.toList = w := by simp [st]
@[simp] theorem st_app : st u ++ st v = st (u ++ v) := by
  show Str.append (st u) (st v) = _
  simp [Str.append, st]
theorem st_inj (h : st u = st v) : u = v := by
  have := congrArg (fun s : Str => s.cps.toList) h
  simpa using this
@[simp] theorem st_eq : st u = st v ↔ u = v := ⟨st_inj, fun h => by rw [h]⟩
theorem st_of (x : Str) : x = st x.cps.toList := by cases x; simp [st]
theorem st_one {c : Nat} : (⟨#[c]⟩ : Str) = st [c] := rfl
@[simp] theorem signs_st : signs (st w) = w.map fun c => sD [c] := by simp [signs, st_one]
@[simp] theorem cutS_st {lo hi : Option Int} : cutS (st w) lo hi = st ((w.drop (HT.sIx w.length 0 lo)).take (HT.sIx w.length w.length hi - HT.sIx w.length 0 lo)) := by
  unfold cutS
  rw [st_len, st_cps]
  rfl
theorem sIx_pos {n d : Nat} {i : Int} (h : 0 ≤ i) : HT.sIx n d (some i) = min i.toNat n := by
  unfold HT.sIx; simp; omega
theorem cut_from {α : Type} {l : List α} {i : Int} (h : 0 ≤ i) : (l.drop (HT.sIx l.length 0 (some i))).take (HT.sIx l.length l.length none - HT.sIx l.length 0 (some i)) = l.drop i.toNat := by
  rw [sIx_pos h]
  show (l.drop (min i.toNat l.length)).take (l.length - min i.toNat l.length) = _
  by_cases c : i.toNat ≤ l.length
  · rw [Nat.min_eq_left c, List.take_of_length_le (by simp)]
  · rw [Nat.min_eq_right (by omega), List.drop_eq_nil_of_le (by omega), List.drop_eq_nil_of_le (by omega)]; simp
theorem cut_upto {α : Type} {l : List α} {i : Int} (h : 0 ≤ i) : (l.drop (HT.sIx l.length 0 none)).take (HT.sIx l.length l.length (some i) - HT.sIx l.length 0 none) = l.take i.toNat := by
  rw [sIx_pos h]
  show (l.drop 0).take (min i.toNat l.length - 0) = _
  rw [List.drop_zero, Nat.sub_zero, List.take_eq_take_iff]
  omega
theorem cut_last {α : Type} {l : List α} : (l.drop (HT.sIx l.length 0 none)).take (HT.sIx l.length l.length (some (-1)) - HT.sIx l.length 0 none) = l.dropLast := by
  show (l.drop 0).take ((if (-1 : Int) < 0 then ((-1 : Int) + (l.length : Int)).toNat else min (-1 : Int).toNat l.length) - 0) = _
  rw [if_pos (by decide), List.drop_zero, Nat.sub_zero, List.dropLast_eq_take]
  congr 1
  omega
theorem cut_mid {α : Type} {l : List α} {i j : Int} (h : 0 ≤ i) (h' : i ≤ j) : (l.drop (HT.sIx l.length 0 (some i))).take (HT.sIx l.length l.length (some j) - HT.sIx l.length 0 (some i)) = (l.drop i.toNat).take (j.toNat - i.toNat) := by
  rw [sIx_pos h, sIx_pos (by omega)]
  by_cases c : i.toNat ≤ l.length
  · rw [Nat.min_eq_left c, List.take_eq_take_iff]
    simp
    omega
  · rw [Nat.min_eq_right (by omega), List.drop_eq_nil_of_le (by omega), List.drop_eq_nil_of_le (by omega)]
    simp
theorem line : sizeLine = 16777216 := sizeLine_eq
theorem join_nil {l : List Wd} : Txt.join (Str.ofString "") (l.map st) = st l.flatten := by
  show Builtin.Str.glued _ _ = _
  induction l with
  | nil => rfl
  | cons a l ih =>
    cases l with
    | nil => simp [Builtin.Str.glued]
    | cons b l =>
      rw [StrLaws.glued_eq_join] at ih ⊢
      show st a ++ st [] ++ Str.join (Str.ofString "") ((b :: l).map st) = _
      rw [ih]
      simp
theorem mul_one' {c : Nat} {n : Int} (h : 0 ≤ n) : Txt.mul (st [c]) n = st (List.replicate n.toNat c) := by
  unfold Txt.mul
  by_cases h1 : n < 1
  · have : n = 0 := by omega
    subst this
    rfl
  · rw [if_neg h1]
    by_cases h2 : n = 1
    · subst h2; rfl
    · rw [if_neg (by rw [st_len, beq_false_of_ne h2]; simp)]
      have key : ∀ (k : Nat) (acc : Array Nat), (List.replicate k (st [c]).cps).foldl (· ++ ·) acc = acc ++ (List.replicate k c).toArray := by
        intro k
        induction k with
        | zero => intro acc; simp
        | succ k ih =>
            intro acc
            rw [List.replicate_succ, List.foldl_cons, ih, List.replicate_succ]
            apply Array.ext'
            simp [st]
      rw [key]
      unfold st
      congr 1
      apply Array.ext'
      simp
end
section
variable {Cs : List Str}
@[simp] theorem isi_non_bool  : gIsi Cs [.non, .ty "bool"] = some (.d (.bl false)) := rfl
@[simp] theorem isi_non_dict  : gIsi Cs [.non, .ty "dict"] = some (.d (.bl false)) := rfl
@[simp] theorem isi_non_int  : gIsi Cs [.non, .ty "int"] = some (.d (.bl false)) := rfl
@[simp] theorem isi_non_list  : gIsi Cs [.non, .ty "list"] = some (.d (.bl false)) := rfl
@[simp] theorem isi_non_str  : gIsi Cs [.non, .ty "str"] = some (.d (.bl false)) := rfl
@[simp] theorem isi_non_tuple  : gIsi Cs [.non, .ty "tuple"] = some (.d (.bl false)) := rfl
@[simp] theorem isi_bl_bool {x : Bool} : gIsi Cs [(.bl x), .ty "bool"] = some (.d (.bl true)) := rfl
@[simp] theorem isi_bl_dict {x : Bool} : gIsi Cs [(.bl x), .ty "dict"] = some (.d (.bl false)) := rfl
@[simp] theorem isi_bl_int {x : Bool} : gIsi Cs [(.bl x), .ty "int"] = some (.d (.bl true)) := rfl
@[simp] theorem isi_bl_list {x : Bool} : gIsi Cs [(.bl x), .ty "list"] = some (.d (.bl false)) := rfl
@[simp] theorem isi_bl_str {x : Bool} : gIsi Cs [(.bl x), .ty "str"] = some (.d (.bl false)) := rfl
@[simp] theorem isi_bl_tuple {x : Bool} : gIsi Cs [(.bl x), .ty "tuple"] = some (.d (.bl false)) := rfl
@[simp] theorem isi_int_bool {x : Int} : gIsi Cs [(.int x), .ty "bool"] = some (.d (.bl false)) := rfl
@[simp] theorem isi_int_dict {x : Int} : gIsi Cs [(.int x), .ty "dict"] = some (.d (.bl false)) := rfl
@[simp] theorem isi_int_int {x : Int} : gIsi Cs [(.int x), .ty "int"] = some (.d (.bl true)) := rfl
@[simp] theorem isi_int_list {x : Int} : gIsi Cs [(.int x), .ty "list"] = some (.d (.bl false)) := rfl
@[simp] theorem isi_int_str {x : Int} : gIsi Cs [(.int x), .ty "str"] = some (.d (.bl false)) := rfl
@[simp] theorem isi_int_tuple {x : Int} : gIsi Cs [(.int x), .ty "tuple"] = some (.d (.bl false)) := rfl
@[simp] theorem isi_str_bool {x : Str} : gIsi Cs [(.str x), .ty "bool"] = some (.d (.bl false)) := rfl
@[simp] theorem isi_str_dict {x : Str} : gIsi Cs [(.str x), .ty "dict"] = some (.d (.bl false)) := rfl
@[simp] theorem isi_str_int {x : Str} : gIsi Cs [(.str x), .ty "int"] = some (.d (.bl false)) := rfl
@[simp] theorem isi_str_list {x : Str} : gIsi Cs [(.str x), .ty "list"] = some (.d (.bl false)) := rfl
@[simp] theorem isi_str_str {x : Str} : gIsi Cs [(.str x), .ty "str"] = some (.d (.bl true)) := rfl
@[simp] theorem isi_str_tuple {x : Str} : gIsi Cs [(.str x), .ty "tuple"] = some (.d (.bl false)) := rfl
@[simp] theorem isi_tup_bool {x : List D} : gIsi Cs [(.tup x), .ty "bool"] = some (.d (.bl false)) := rfl
@[simp] theorem isi_tup_dict {x : List D} : gIsi Cs [(.tup x), .ty "dict"] = some (.d (.bl false)) := rfl
@[simp] theorem isi_tup_int {x : List D} : gIsi Cs [(.tup x), .ty "int"] = some (.d (.bl false)) := rfl
@[simp] theorem isi_tup_list {x : List D} : gIsi Cs [(.tup x), .ty "list"] = some (.d (.bl false)) := rfl
@[simp] theorem isi_tup_str {x : List D} : gIsi Cs [(.tup x), .ty "str"] = some (.d (.bl false)) := rfl
@[simp] theorem isi_tup_tuple {x : List D} : gIsi Cs [(.tup x), .ty "tuple"] = some (.d (.bl true)) := rfl
@[simp] theorem isi_kt_bool {x : List D} : gIsi Cs [(.kt x), .ty "bool"] = some (.d (.bl false)) := rfl
@[simp] theorem isi_kt_dict {x : List D} : gIsi Cs [(.kt x), .ty "dict"] = some (.d (.bl false)) := rfl
@[simp] theorem isi_kt_int {x : List D} : gIsi Cs [(.kt x), .ty "int"] = some (.d (.bl false)) := rfl
@[simp] theorem isi_kt_list {x : List D} : gIsi Cs [(.kt x), .ty "list"] = some (.d (.bl false)) := rfl
@[simp] theorem isi_kt_str {x : List D} : gIsi Cs [(.kt x), .ty "str"] = some (.d (.bl false)) := rfl
@[simp] theorem isi_kt_tuple {x : List D} : gIsi Cs [(.kt x), .ty "tuple"] = some (.d (.bl true)) := rfl
@[simp] theorem isi_lst_bool {x : List D} : gIsi Cs [(.lst x), .ty "bool"] = some (.d (.bl false)) := rfl
@[simp] theorem isi_lst_dict {x : List D} : gIsi Cs [(.lst x), .ty "dict"] = some (.d (.bl false)) := rfl
@[simp] theorem isi_lst_int {x : List D} : gIsi Cs [(.lst x), .ty "int"] = some (.d (.bl false)) := rfl
@[simp] theorem isi_lst_list {x : List D} : gIsi Cs [(.lst x), .ty "list"] = some (.d (.bl true)) := rfl
@[simp] theorem isi_lst_str {x : List D} : gIsi Cs [(.lst x), .ty "str"] = some (.d (.bl false)) := rfl
@[simp] theorem isi_lst_tuple {x : List D} : gIsi Cs [(.lst x), .ty "tuple"] = some (.d (.bl false)) := rfl
@[simp] theorem isi_scr_bool {x : List Int} : gIsi Cs [(.scr x), .ty "bool"] = some (.d (.bl false)) := rfl
@[simp] theorem isi_scr_dict {x : List Int} : gIsi Cs [(.scr x), .ty "dict"] = some (.d (.bl false)) := rfl
@[simp] theorem isi_scr_int {x : List Int} : gIsi Cs [(.scr x), .ty "int"] = some (.d (.bl false)) := rfl
@[simp] theorem isi_scr_list {x : List Int} : gIsi Cs [(.scr x), .ty "list"] = some (.d (.bl true)) := rfl
@[simp] theorem isi_scr_str {x : List Int} : gIsi Cs [(.scr x), .ty "str"] = some (.d (.bl false)) := rfl
@[simp] theorem isi_scr_tuple {x : List Int} : gIsi Cs [(.scr x), .ty "tuple"] = some (.d (.bl false)) := rfl
@[simp] theorem isi_dK_bool {ks : List Key} {x : List D} : gIsi Cs [(.dK ks x), .ty "bool"] = some (.d (.bl false)) := rfl
@[simp] theorem isi_dK_dict {ks : List Key} {x : List D} : gIsi Cs [(.dK ks x), .ty "dict"] = some (.d (.bl true)) := rfl
@[simp] theorem isi_dK_int {ks : List Key} {x : List D} : gIsi Cs [(.dK ks x), .ty "int"] = some (.d (.bl false)) := rfl
@[simp] theorem isi_dK_list {ks : List Key} {x : List D} : gIsi Cs [(.dK ks x), .ty "list"] = some (.d (.bl false)) := rfl
@[simp] theorem isi_dK_str {ks : List Key} {x : List D} : gIsi Cs [(.dK ks x), .ty "str"] = some (.d (.bl false)) := rfl
@[simp] theorem isi_dK_tuple {ks : List Key} {x : List D} : gIsi Cs [(.dK ks x), .ty "tuple"] = some (.d (.bl false)) := rfl
theorem isi_ins_bool {C : Str} {fs : List Str} {x : List D} (h : C ∈ Cs) : gIsi Cs [.ins C fs x, .ty "bool"] = some (.d (.bl false)) := if_pos h
theorem isi_ins_dict {C : Str} {fs : List Str} {x : List D} (h : C ∈ Cs) : gIsi Cs [.ins C fs x, .ty "dict"] = some (.d (.bl false)) := if_pos h
theorem isi_ins_int {C : Str} {fs : List Str} {x : List D} (h : C ∈ Cs) : gIsi Cs [.ins C fs x, .ty "int"] = some (.d (.bl false)) := if_pos h
theorem isi_ins_list {C : Str} {fs : List Str} {x : List D} (h : C ∈ Cs) : gIsi Cs [.ins C fs x, .ty "list"] = some (.d (.bl false)) := if_pos h
theorem isi_ins_str {C : Str} {fs : List Str} {x : List D} (h : C ∈ Cs) : gIsi Cs [.ins C fs x, .ty "str"] = some (.d (.bl false)) := if_pos h
theorem isi_ins_tuple {C : Str} {fs : List Str} {x : List D} (h : C ∈ Cs) : gIsi Cs [.ins C fs x, .ty "tuple"] = some (.d (.bl false)) := if_pos h
theorem isi_cls {C C2 : Str} {fs : List Str} {x : List D} (h : C ∈ Cs) (h2 : C2 ∈ Cs) : gIsi Cs [.ins C fs x, .cls C2] = some (.d (.bl (decide (C = C2)))) := (if_pos h2).trans (if_pos h)
end
@[simp] theorem isOwn_no : Sl.no.isOwn = false := rfl
@[simp] theorem isOwn_d {d : D} : (Sl.d d).isOwn = false := rfl
@[simp] theorem backS_nil {a b : S} : backS [] a b = b := rfl
/-! ### one sign, looked for -/
@[simp] theorem gIn_sign {n : Bool} {c : Nat} {w : Wd} : gIn n (.str (st [c])) (.str (st w)) = some (.d (.bl (if n then !decide (c ∈ w) else decide (c ∈ w)))) := by
  have e : inS (.str (st [c])) (.str (st w)) = some (decide (c ∈ w)) := by
    show (if (st [c]).cps.size = 1 then some (decide ((st [c]).cps.getD 0 0 ∈ (st w).cps.toList)) else none) = _
    rw [if_pos (by simp)]
    simp [st]
  have : gIn n (.str (st [c])) (.str (st w)) = gInS n (.str (st [c])) (.str (st w)) := rfl
  rw [this]
  unfold gInS
  rw [e]
  rfl
@[simp] theorem gIn_dK {n : Bool} {x : D} {ks : List Key} {vs : List D} : gIn n x (.dK ks vs) = (keyOf x).map fun k => .d (.bl (if n then !(findK k ks vs).isSome else (findK k ks vs).isSome)) := by
  show (inD x (.dK ks vs)).map _ = _
  unfold inD
  show (((keyOf x).map fun k => findK k ks vs).map Option.isSome).map _ = _
  cases keyOf x <;> rfl
@[simp] theorem gIn_dT {n : Bool} {x : D} {ks : List (List Key)} {vs : List D} : gIn n x (.dT ks vs) = (tkeyOf x).map fun k => .d (.bl (if n then !(findK k ks vs).isSome else (findK k ks vs).isSome)) := by
  show (inD x (.dT ks vs)).map _ = _
  unfold inD
  show (((tkeyOf x).map fun k => findK k ks vs).map Option.isSome).map _ = _
  cases tkeyOf x <;> rfl
theorem blsOf_map {α : Type} {f : α → D} {g : α → Bool} : ∀ {l : List α}, (∀ a ∈ l, f a = .bl (g a)) → blsOf (l.map f) = some (l.map g)
  | [], _ => rfl
  | a :: l, h => by
    rw [List.map_cons, h a (List.mem_cons_self ..)]
    show (blsOf (l.map f)).map _ = _
    rw [blsOf_map fun b hb => h b (List.mem_cons_of_mem _ hb)]
    rfl
theorem gAllB_true {α : Type} {l : List α} {f : α → D} (h : ∀ a ∈ l, f a = .bl true) : gAllB [.lst (l.map f)] = some (.d (.bl true)) := by
  show (blsOf (l.map f)).map _ = _
  rw [blsOf_map (g := fun _ => true) h]
  simp
theorem strsOf_map {α : Type} {f : α → D} {g : α → Str} : ∀ {l : List α}, (∀ a ∈ l, f a = .str (g a)) → strsOf (l.map f) = some (l.map g)
  | [], _ => rfl
  | a :: l, h => by
    rw [List.map_cons, h a (List.mem_cons_self ..)]
    show (strsOf (l.map f)).map _ = _
    rw [strsOf_map fun b hb => h b (List.mem_cons_of_mem _ hb)]
    rfl
end PL
end

section
set_option Elab.async false
set_option linter.all false
set_option maxRecDepth 100000
set_option maxHeartbeats 2000000
namespace PL
open PySem PySem.Spec PyProof.Rows L2
section
variable {w : Wd} {c : Nat}
theorem at_one {i : Nat} : (i + (st [c]).length ≤ (st w).length ∧ Builtin.Str.subAt (st w) (st [c]) i = true) ↔ w[i]? = some c := by
  have := StrLaws.subAt_one (st w) c i
  rw [st_cps] at this
  exact this
theorem occ_one (h : c ∈ w) : ∃ r, Builtin.Str.occurrences (st w) (st [c]) 0 (st w).length 1 = w.idxOf c :: r := by
  rcases StrLaws.occ_head (st w) (st [c]) 1 (Nat.le_refl _) with ⟨_, hn⟩ | ⟨i, r, e, ha, hk⟩
  · exact absurd (at_one.mpr (by rw [List.getElem?_eq_getElem (List.idxOf_lt_length_of_mem h), List.getElem_idxOf])) (hn (w.idxOf c))
  · refine ⟨r, ?_⟩
    have h1 : w[i]? = some c := at_one.mp ha
    have h2 : w.idxOf c = i := by
      have lt : w.idxOf c < w.length := List.idxOf_lt_length_of_mem h
      have hle : w.idxOf c ≤ i := by
        refine Nat.le_of_not_lt fun q => ?_
        have := List.not_of_lt_findIdx (p := (· == c)) (show i < w.findIdx (· == c) from q)
        obtain ⟨hi, h3⟩ := List.getElem?_eq_some_iff.mp h1
        simp [h3] at this
      refine Nat.le_antisymm hle (Nat.le_of_not_lt fun q => ?_)
      exact hk _ q (at_one.mpr (by rw [List.getElem?_eq_getElem lt, List.getElem_idxOf]))
    rw [e, h2]
@[simp] theorem gSIndex_st : gSIndex (.str (st w)) [.str (st [c])] = if c ∈ w then some (.d (.int (w.idxOf c : Nat))) else none := by
  by_cases h : c ∈ w
  · obtain ⟨r, e⟩ := occ_one h
    rw [if_pos h]
    show (match Builtin.Str.occurrences (st w) (st [c]) 0 (st w).length 1 with
      | i :: _ => some (Wv.d (.int (i : Nat)))
      | [] => none) = _
    rw [e]
  · rw [if_neg h]
    have := StrLaws.found_one (st w) c
    rw [st_cps, decide_eq_false h] at this
    have e : Builtin.Str.occurrences (st w) (st [c]) 0 (st w).length 1 = [] := by
      rw [← List.isEmpty_iff]
      have h2 : (!(Builtin.Str.occurrences (st w) (st [c]) 0 (st w).length 1).isEmpty) = false := this
      simpa using h2
    show (match Builtin.Str.occurrences (st w) (st [c]) 0 (st w).length 1 with
      | i :: _ => some (Wv.d (.int (i : Nat)))
      | [] => none) = _
    rw [e]
theorem occ_count (hi limit : Nat) : ∀ (k a : Nat) (acc : Array Nat) (free : Nat), free ≤ a → acc.size + k ≤ limit → a + k ≤ w.length + 1 →
    (forIn (List.range' a k) (acc, free) (StrLaws.occBody (st w) (st [c]) w.length limit)).run.fst.size = acc.size + ((w.drop a).take k).count c
  | 0, a, acc, free, _, _, _ => by simp
  | k + 1, a, acc, free, hf, hl, ha => by
    rw [List.range'_succ, List.forIn_cons]
    unfold StrLaws.occBody
    by_cases hc : w[a]? = some c
    · obtain ⟨h1, h2⟩ := at_one.mpr hc
      rw [st_len] at h1
      rw [if_pos ⟨⟨⟨by show acc.size < limit; omega, hf⟩, h1⟩, h2⟩]
      have ih := occ_count hi limit k (a + 1) (acc.push a) (a + (st [c]).length) (by simp) (by simp; omega) (by omega)
      refine ih.trans ?_
      obtain ⟨hlt, e⟩ := List.getElem?_eq_some_iff.mp hc
      rw [List.drop_eq_getElem_cons hlt, List.take_succ_cons, e, List.count_cons_self]
      simp
      omega
    · rw [if_neg (fun h => hc (at_one.mp ⟨by rw [st_len (w := w)]; exact h.1.2, h.2⟩))]
      have ih := occ_count hi limit k (a + 1) acc free (by omega) (by omega) (by omega)
      refine ih.trans ?_
      by_cases hlt : a < w.length
      · rw [List.drop_eq_getElem_cons hlt, List.take_succ_cons, List.count_cons_of_ne]
        intro h
        exact hc (by rw [List.getElem?_eq_getElem hlt, h])
      · rw [List.drop_eq_nil_of_le (show w.length ≤ a by omega), List.drop_eq_nil_of_le (show w.length ≤ a + 1 by omega)]
        simp
@[simp] theorem gSCount_st : gSCount (.str (st w)) [.str (st [c])] = some (.d (.int (w.count c : Nat))) := by
  have e : Txt.count (st w) (st [c]) = (w.count c : Nat) := by
    unfold Txt.count
    rw [StrLaws.occ_eq, Array.length_toList, st_len]
    have := occ_count (w := w) (c := c) 0 (w.length + 1) (w.length + 1 - 0) 0 #[] 0 (Nat.le_refl _) (by simp) (by omega)
    rw [this]
    simp
    rw [List.take_of_length_le (by omega)]
  show some (Wv.d (.int (Txt.count (st w) (st [c])))) = _
  rw [e]
end
@[simp] theorem upTo_len {lo : Int} {n : Nat} : (upTo lo n).length = n := by simp [upTo]
@[simp] theorem ofString_eq {a b : String} : (Str.ofString a = Str.ofString b) ↔ a = b := by
  refine ⟨fun h => ?_, fun h => by rw [h]⟩
  rw [Str.ofString_eq_toList, Str.ofString_eq_toList] at h
  have h1 : (a.toList.map Char.toNat) = b.toList.map Char.toNat := by
    have := congrArg (fun s : Str => s.cps.toList) h
    simpa using this
  have key : ∀ l l' : List Char, l.map Char.toNat = l'.map Char.toNat → l = l' := by
    intro l
    induction l with
    | nil => intro l' h; cases l' with
      | nil => rfl
      | cons _ _ => cases h
    | cons x l ih => intro l' h; cases l' with
      | nil => cases h
      | cons y l' =>
        rw [List.map_cons, List.map_cons] at h
        injection h with h1 h2
        rw [ih l' h2, Char.toNat_inj.mp h1]
  exact String.toList_inj.mp (key _ _ h1)
/-! ### more rules -/
section
variable {env : PEnv} {m : Store} {k : KF}
@[simp] theorem RP_cChain {g g' : D → D → Option Wv} {o1 o2 o3 : Opd} {Q : Wv → S → Prop} : RP (cChain g g' o1 o2 o3 ⟨env, m⟩) Q ↔ RP (o1.run ⟨env, m⟩) fun x1 s1 => RP (o2.run s1) fun x2 s2 => RP (lift2 g (o1.get x1 s2) (o2.get x2 s2) s2) fun w s => RP (Res.lift w.bl? s) fun b s => if b = true then RP (o3.run s2) fun x3 s3 => RP (lift2 g' (o2.get x2 s3) (o3.get x3 s3) s3) Q else Q (.d (.bl false)) s2 := by
  unfold cChain
  rw [RP_bind]
  refine RP_congr fun x1 s1 => ?_
  rw [RP_bind]
  refine RP_congr fun x2 s2 => ?_
  cases o1.get x1 s2 with
  | none => exact Iff.rfl
  | some d1 => cases o2.get x2 s2 with
    | none => exact Iff.rfl
    | some d2 =>
      rw [lift2_]
      dsimp only
      cases e : g d1 d2 with
      | none => exact Iff.rfl
      | some w =>
        rw [RP_lift_some]
        cases w with
        | nw c => exact Iff.rfl
        | d d => cases d with
          | bl b => cases b with
            | false => exact Iff.rfl
            | true =>
              show RP (Res.bind _ _) Q ↔ _
              rw [RP_bind, bl_bl, RP_lift_some, if_pos rfl]
              refine RP_congr fun x3 s3 => ?_
              cases o2.get x2 s3 with
              | none => exact Iff.rfl
              | some d2' => cases o3.get x3 s3 <;> exact Iff.rfl
          | _ => exact Iff.rfl
def fldE (Cs : List Str) (f : Str) (d : D) (o : Opd) (x : Option D) (s : S) : Fl := match rcell o x s with
  | some (.ins C fs) => if C ∈ Cs ∧ fs.length < 1000 then .nx (rput o x s (.ins C (putA f d fs))) else .stuck
  | _ => .stuck
@[simp] theorem FP_sFldS {Cs : List Str} {f : Str} {fv : S → Res D} {o : Opd} : FP (sFldS Cs f fv o ⟨env, m⟩) k ↔ RP (fv ⟨env, m⟩) fun d s => RP (o.run s) fun x s => FP (fldE Cs f d o x s) k := by
  unfold sFldS
  rw [FP_fl]; exact RP_congr fun a s => FP_fl
@[simp] theorem FP_fldE {Cs : List Str} {f : Str} {d : D} {o : Opd} {x : Option D} : FP (fldE Cs f d o x ⟨env, m⟩) k ↔ match rcell o x ⟨env, m⟩ with
  | some (.ins C fs) => (C ∈ Cs ∧ fs.length < 1000) ∧ k.nx (rput o x ⟨env, m⟩ (.ins C (putA f d fs)))
  | _ => False := by
  unfold fldE
  cases rcell o x ⟨env, m⟩ with
  | none => exact Iff.rfl
  | some c => cases c with
    | ins C fs =>
      dsimp only
      by_cases h : C ∈ Cs ∧ fs.length < 1000
      · rw [if_pos h]; exact ⟨fun z => ⟨h, z⟩, fun z => z.2⟩
      · rw [if_neg h]; exact ⟨fun z => z.elim, fun z => h z.1⟩
    | _ => exact Iff.rfl
theorem makeP {C : Str} {ini : Fn} {ds : List D} {s : S} {Q : Wv → S → Prop} (hn : nrs ds = true) (h : FnP ini (.ref 0 :: ds) [.ins C []] fun w t => w = .d .non ∧ ∃ c, t = [c] ∧ c.nr = true ∧ Q (.nw c) s) : MakeP C ini ds s Q := by
  refine ⟨?_⟩
  obtain ⟨w, t, e, rfl, c, rfl, h1, h2⟩ := h
  unfold makeR
  rw [if_pos hn, e]
  dsimp only
  rw [if_pos h1]
  exact h2
end
@[simp] theorem gAllB_c {α β : Type} {f : α → β} {l : List α} : gAllB [.lst (l.map ((fun _ => D.bl true) ∘ f))] = some (.d (.bl true)) := gAllB_true fun _ _ => rfl
@[simp] theorem gAllB_c' {α : Type} {l : List α} : gAllB [.lst (l.map (fun _ => D.bl true))] = some (.d (.bl true)) := gAllB_true fun _ _ => rfl
@[simp] theorem gNeg1 : gNeg (.int 1) = some (.d (.int (-1))) := rfl
@[simp] theorem gIsN_non {n : Bool} : gIsN n .non .non = some (.d (.bl (!n))) := rfl
@[simp] theorem gIsN_int {n : Bool} {i : Int} : gIsN n (.int i) .non = some (.d (.bl n)) := rfl
@[simp] theorem gIsN_str {n : Bool} {i : Str} : gIsN n (.str i) .non = some (.d (.bl n)) := rfl
@[simp] theorem gIsN_tup {n : Bool} {i : List D} : gIsN n (.tup i) .non = some (.d (.bl n)) := rfl
@[simp] theorem gIsN_bl {n : Bool} {i : Bool} : gIsN n (.bl i) .non = some (.d (.bl n)) := rfl
@[simp] theorem gIsN_blbl {n a b : Bool} : gIsN n (.bl a) (.bl b) = some (.d (.bl (if n then !decide (a = b) else decide (a = b)))) := rfl
@[simp] theorem gIsN_lst {n : Bool} {i : List D} : gIsN n (.lst i) .non = some (.d (.bl n)) := rfl
section
variable {env : PEnv} {m : Store} {i : Nat}
@[simp] theorem RP_calm {α : Type} {r : Res α} {Q : α → S → Prop} : RP r.calm Q ↔ RP r Q := by cases r <;> exact Iff.rfl
@[simp] theorem RP_cLock {f : S → Res Wv} {Q : Wv → S → Prop} : RP (cLock i f ⟨env, m⟩) Q ↔ match env[i]? with
  | some (.d (.dK ks vs)) => RP (f ⟨env, m⟩) Q
  | some (.own (.dK kvs)) => RP (f ⟨env.set i (.d (.dK (kvs.map (·.1)) (kvs.map (·.2)))), m⟩) Q
  | _ => False := by
  unfold cLock dslot
  dsimp only
  cases h : env[i]? with
  | none => exact Iff.rfl
  | some sl => cases sl with
    | no => exact Iff.rfl
    | d d => cases d with
      | dK ks vs => exact RP_calm
      | _ => exact Iff.rfl
    | own c => cases c with
      | dK kvs => exact RP_calm
      | _ => exact Iff.rfl
@[simp] theorem RP_iDk {Q : List D → S → Prop} : RP (iDk i ⟨env, m⟩) Q ↔ match env[i]? with
  | some (.d (.dK ks vs)) => Q (ks.map keyD) ⟨env, m⟩
  | _ => False := by
  unfold iDk
  dsimp only
  split <;> rename_i h <;> simp [h]
@[simp] theorem RP_iDv {Q : List D → S → Prop} : RP (iDv i ⟨env, m⟩) Q ↔ match env[i]? with
  | some (.d (.dK ks vs)) => Q vs ⟨env, m⟩
  | _ => False := by
  unfold iDv
  dsimp only
  split <;> rename_i h <;> simp [h]
@[simp] theorem RP_iDi {Q : List D → S → Prop} : RP (iDi i ⟨env, m⟩) Q ↔ match env[i]? with
  | some (.d (.dK ks vs)) => Q ((ks.zip vs).map fun kv => .tup [keyD kv.1, kv.2]) ⟨env, m⟩
  | _ => False := by
  unfold iDi
  dsimp only
  split <;> rename_i h <;> simp [h]
end
@[simp] theorem sz_0 : 0 ≤ sizeLine := by rw [sizeLine_eq]; decide
@[simp] theorem sz_1 : 1 ≤ sizeLine := by rw [sizeLine_eq]; decide
@[simp] theorem sz_2 : 2 ≤ sizeLine := by rw [sizeLine_eq]; decide
@[simp] theorem sz_3 : 3 ≤ sizeLine := by rw [sizeLine_eq]; decide
@[simp] theorem sz_4 : 4 ≤ sizeLine := by rw [sizeLine_eq]; decide
@[simp] theorem sz_5 : 5 ≤ sizeLine := by rw [sizeLine_eq]; decide
@[simp] theorem sz_6 : 6 ≤ sizeLine := by rw [sizeLine_eq]; decide
@[simp] theorem sz_7 : 7 ≤ sizeLine := by rw [sizeLine_eq]; decide
@[simp] theorem sz_8 : 8 ≤ sizeLine := by rw [sizeLine_eq]; decide
@[simp] theorem sz_9 : 9 ≤ sizeLine := by rw [sizeLine_eq]; decide
@[simp] theorem sz_10 : 10 ≤ sizeLine := by rw [sizeLine_eq]; decide
@[simp] theorem sz_11 : 11 ≤ sizeLine := by rw [sizeLine_eq]; decide
@[simp] theorem sz_12 : 12 ≤ sizeLine := by rw [sizeLine_eq]; decide
@[simp] theorem sz_13 : 13 ≤ sizeLine := by rw [sizeLine_eq]; decide
@[simp] theorem sz_14 : 14 ≤ sizeLine := by rw [sizeLine_eq]; decide
@[simp] theorem sz_15 : 15 ≤ sizeLine := by rw [sizeLine_eq]; decide
@[simp] theorem sz_16 : 16 ≤ sizeLine := by rw [sizeLine_eq]; decide
end PL
end

section
set_option Elab.async false
set_option linter.all false
set_option maxRecDepth 100000
set_option maxHeartbeats 0
namespace Law
open PySem PySem.Spec PyProof.Rows L2 PL
def b__law_take : S → Fl :=
    (sSeq (sIf (cAnd (cB (cOp2 gIx (.v 0) (.e (cC (.int 1))))) (cB (cOp2 (gB2 fun i j => decide (j < i)) (.e (cFz (cOp2 gIx (.v 0) (.e (cC (.int 0)))))) (.e (cC (.int 0))))))
    (sSeq (sSet 2 (cOp2 (gI2 CModB fun i j => i % j) (.e (cFz (cOpN gInt [.e (cFz (cOp2 gIx (.v 0) (.e (cC (.int 0)))))]))) (.v 1)))
    (sSeq (sPut (cFz (cOp2 (gI2 CDivB fun i j => i / j) (.e (cFz (cOp2 gIx (.v 0) (.e (cC (.int 0)))))) (.v 1))) (.v 0) (cC (.int 0)))
    (sRetV 2)))
    sPass)
    (sSeq (sPut (cFz (cOp2 gAdd (.e (cFz (cOp2 gIx (.v 0) (.e (cC (.int 3)))))) (.e (cC (.int 1))))) (.v 0) (cC (.int 3)))
    (sSeq (sSet 3 (cOp2 (gI2 CModB fun i j => i % j) (.e (cFz (cOpN gInt [.e (cFz (cOp2 (gI2 CPowB fun i j => i ^ j.toNat) (.e (cFz (cOp2 gAdd (.e (cFz (cOp2 gAdd (.e (cFz (cOp2 gIx (.v 0) (.e (cC (.int 2)))))) (.e (cFz (cOp2 gMul (.e (cC (.int 15485863))) (.e (cFz (cOp2 gIx (.v 0) (.e (cC (.int 3)))))))))))) (.e (cC (.int 179424673)))))) (.e (cC (.int 5)))))]))) (.e (cC (.int 2147483647)))))
    (sRet (cOp2 (gI2 CModB fun i j => i % j) (.e (cFz (cOpN gInt [.e (cFz (cOp2 (gI2 CDivB fun i j => i / j) (.e (cFz (cOp2 (gI2 CModB fun i j => i % j) (.e (cFz (cOpN gInt [.e (cFz (cOp2 (gI2 CPowB fun i j => i ^ j.toNat) (.e (cFz (cOp2 gAdd (.e (cFz (cOp2 gMul (.v 3) (.e (cC (.int 48271)))))) (.e (cFz (cOp2 gMul (.e (cC (.int 104729))) (.e (cFz (cOp2 gIx (.v 0) (.e (cC (.int 3)))))))))))) (.e (cC (.int 3)))))]))) (.e (cC (.int 2147483587)))))) (.e (cC (.int 64)))))]))) (.v 1))))))
def f__law_take : Fn := mkFn 2 4 b__law_take
def b__law_word : S → Fl :=
    (sRet (cMth "str" gJoin (.e (cC (.str ""))) [.e (cFz (cComp (iRng gRng1 (cCons (cFz (cCall f__law_take (cCons (cRef 0) (cCons (cFz (cOp2 gAdd (.v 2) (.e (cC (.int 1))))) cNil)) [])) cNil)) (.n 3) [3] cYes (cFz (cOp2 gIx (.e (cC (.str "abcdefgh"))) (.e (cFz (cCall f__law_take (cCons (cRef 0) (cCons (cVar 1) cNil)) [])))))))]))
def f__law_word : Fn := mkFn 3 4 b__law_word
def b__law_drawn : S → Fl :=
    (sSeq (sPar [1, 2] (wCons (cOp2 gAdd (.e (cC (.int 1))) (.e (cFz (cCall f__law_take (cCons (cRef 0) (cCons (cC (.int 6)) cNil)) [])))) (wCons (cOp2 gIx (.e (cFz (cLst (cCons (cC (.int 1)) (cCons (cC (.int 2)) (cCons (cC (.int 2)) (cCons (cC (.int 3)) (cCons (cC (.int 4)) cNil)))))))) (.e (cFz (cCall f__law_take (cCons (cRef 0) (cCons (cC (.int 5)) cNil)) [])))) wNil)))
    (sSeq (sSet 3 (cOp2 gIx (.e (cFz (cLst (cCons (cC (.int 2)) (cCons (cC (.int 3)) (cCons (cC (.int 4)) (cCons (cC (.int 8)) cNil))))))) (.e (cFz (cCall f__law_take (cCons (cRef 0) (cCons (cC (.int 4)) cNil)) [])))))
    (sSeq (sSet 4 (cOpN gTupleS [.e (cFz (cComp (iRng gRng1 (cCons (cVar 1) cNil)) (.n 5) [5] cYes (cFz (cCall f__law_word (cCons (cRef 0) (cCons (cVar 1) (cCons (cVar 3) cNil))) []))))]))
    (sSeq (sIf (cB (cOp2 gEq (.e (cFz (cCall f__law_take (cCons (cRef 0) (cCons (cC (.int 3)) cNil)) []))) (.e (cC (.int 0)))))
    (sSet 4 (cOpN gTupleS [.e (cFz (cComp (iSeq (cVar 4)) (.n 6) [6] cYes (cFz (cSl (.v 6) .none (.e (cC (.int 1)))))))]))
    sPass)
    (sRet (cTup (cCons (cVar 2) (cCons (cVar 4) (cCons (cFz (cCall f__law_word (cCons (cRef 0) (cCons (cVar 1) (cCons (cC (.int 8)) cNil))) [])) cNil)))))))))
def f__law_drawn : Fn := mkFn 1 7 b__law_drawn
def b__law_same (r : Fn) : S → Fl :=
    (sSeq (sIf (cOr (cB (cOp2 (gIsN false) (.v 1) (.e (cC .non)))) (cB (cOpN (gIsi ["Tags"]) [.v 1, .e (cC (.ty "bool"))])))
    (sRet (cIf (cB (cOp2 (gIsN false) (.v 1) (.e (cC .non)))) (cOp2 (gIsN false) (.v 0) (.e (cC .non))) (cAndV (cOpN (gIsi ["Tags"]) [.v 0, .e (cC (.ty "bool"))]) (cOp2 gEq (.e (cFz (cOp2 (gIsN false) (.v 0) (.e (cC (.bl true)))))) (.e (cFz (cOp2 (gIsN false) (.v 1) (.e (cC (.bl true))))))))))
    sPass)
    (sSeq (sIf (cB (cOpN (gIsi ["Tags"]) [.v 1, .e (cC (.ty "int"))]))
    (sRet (cAndV (cOpN (gIsi ["Tags"]) [.v 0, .e (cC (.ty "int"))]) (cAndV (cNotV (cOpN (gIsi ["Tags"]) [.v 0, .e (cC (.ty "bool"))])) (cOp2 gEq (.e (cFz (cOp2 (gI2 CYes fun i j => i - j) (.e (cFz (cOpN gInt [.v 0]))) (.v 1)))) (.e (cC (.int 0)))))))
    sPass)
    (sSeq (sIf (cB (cOpN (gIsi ["Tags"]) [.v 1, .e (cC (.ty "str"))]))
    (sRet (cAndV (cOpN (gIsi ["Tags"]) [.v 0, .e (cC (.ty "str"))]) (cAndV (cOp2 gEq (.e (cFz (cOpN gLen [.v 0]))) (.e (cFz (cOpN gLen [.v 1])))) (cOp2 gEq (.e (cFz (cComp (iRng gRng1 (cCons (cFz (cOpN gLen [.v 1])) cNil)) (.n 2) [2] (cB (cOp2 gNe (.e (cFz (cSl (.v 0) (.e (cVar 2)) (.e (cFz (cOp2 gAdd (.v 2) (.e (cC (.int 1))))))))) (.e (cFz (cOp2 gIx (.v 1) (.v 2)))))) (cVar 2)))) (.e (cFz (cLst cNil)))))))
    sPass)
    (sSeq (sIf (cOr (cB (cOp2 gNe (.e (cFz (cOpN (gIsi ["Tags"]) [.v 0, .e (cC (.ty "list"))]))) (.e (cFz (cOpN (gIsi ["Tags"]) [.v 1, .e (cC (.ty "list"))]))))) (cB (cOp2 gNe (.e (cFz (cOpN (gIsi ["Tags"]) [.v 0, .e (cC (.ty "tuple"))]))) (.e (cFz (cOpN (gIsi ["Tags"]) [.v 1, .e (cC (.ty "tuple"))]))))))
    (sRet (cD (cC (.bl false))))
    sPass)
    (sRet (cAndV (cOp2 gEq (.e (cFz (cOpN gLen [.v 0]))) (.e (cFz (cOpN gLen [.v 1])))) (cOp2 gEq (.e (cFz (cComp (iRng gRng1 (cCons (cFz (cOpN gLen [.v 1])) cNil)) (.n 2) [2] (cNot (cB (cCall r (cCons (cFz (cOp2 gIx (.v 0) (.v 2))) (cCons (cFz (cOp2 gIx (.v 1) (.v 2))) cNil)) []))) (cVar 2)))) (.e (cFz (cLst cNil))))))))))
def f__law_same : Nat → Fn
  | 0 => fun _ _ => .stuck
  | n + 1 => mkFn 2 3 (b__law_same (f__law_same n))
def b_is_word_of : S → Fl :=
    (sRet (cAndV (cOpN (gIsi ["Tags"]) [.v 0, .e (cC (.ty "str"))]) (cAndV (cOp2 (gB2 fun i j => decide (i ≤ j)) (.e (cFz (cOpN gLen [.v 0]))) (.v 2)) (cOpN gAllB [.e (cFz (cComp (iSeq (cVar 0)) (.n 3) [3] cYes (cFz (cOp2 (gIn false) (.v 3) (.v 1)))))]))))
def f_is_word_of : Fn := mkFn 3 4 b_is_word_of
def b_check_signs : S → Fl :=
    (sIf (cNot (cB (cCall f_is_word_of (cCons (cVar 0) (cCons (cC (.str "01")) (cCons (cC (.int (1000))) cNil))) [])))
    sNever
    sPass)
def f_check_signs : Fn := mkFn 1 1 b_check_signs
def b_is_integer : S → Fl :=
    (sRet (cAndV (cOpN (gIsi ["Tags"]) [.v 0, .e (cC (.ty "int"))]) (cNotV (cOpN (gIsi ["Tags"]) [.v 0, .e (cC (.ty "bool"))]))))
def f_is_integer : Fn := mkFn 1 1 b_is_integer
def b_is_between : S → Fl :=
    (sRet (cAndV (cCall f_is_integer (cCons (cVar 0) cNil) []) (cChain (gB2 fun i j => decide (i ≤ j)) (gB2 fun i j => decide (i ≤ j)) (.v 1) (.v 0) (.v 2))))
def f_is_between : Fn := mkFn 3 3 b_is_between
def b_check_steps : S → Fl :=
    (sIf (cNot (cB (cCall f_is_between (cCons (cVar 0) (cCons (cC (.int 0)) (cCons (cVar 1) cNil))) [])))
    sNever
    sPass)
def f_check_steps : Fn := mkFn 2 2 b_check_steps
def b_is_system_cyclic : S → Fl :=
    (sSeq (sIf (cOr (cNot (cB (cOpN (gIsi ["Tags"]) [.v 0, .e (cC (.ty "tuple"))]))) (cNot (cB (cChain (gB2 fun i j => decide (i ≤ j)) (gB2 fun i j => decide (i ≤ j)) (.e (cC (.int 1))) (.e (cFz (cOpN gLen [.v 0]))) (.e (cC (.int (12))))))))
    (sRet (cD (cC (.bl false))))
    sPass)
    (sRet (cOpN gAllB [.e (cFz (cComp (iSeq (cVar 0)) (.n 1) [1] cYes (cFz (cCall f_is_word_of (cCons (cVar 1) (cCons (cC (.str "01")) (cCons (cC (.int (48))) cNil))) []))))])))
def f_is_system_cyclic : Fn := mkFn 1 2 b_is_system_cyclic
def b_cyclic_run : S → Fl :=
    (sSeq (sIf (cNot (cB (cCall f_is_system_cyclic (cCons (cVar 0) cNil) [])))
    sNever
    sPass)
    (sSeq (sExpr (cCall f_check_signs (cCons (cVar 1) cNil) []))
    (sSeq (sExpr (cCall f_check_steps (cCons (cVar 2) (cCons (cC (.int (500))) cNil)) []))
    (sSeq (sPar [3, 4] (wCons (cD (cC (.int 0))) (wCons (cDispT (cFz (cTup (cCons (cC (.int 0)) (cCons (cVar 1) cNil)))) (cC (.bl true))) wNil)))
    (sSeq (sFor (iRng gRng1 (cCons (cFz (cOp2 gAdd (.v 2) (.e (cC (.int 1))))) cNil)) (gN 5)
    (sSeq (sIf (cB (cOp2 gEq (.v 1) (.e (cC (.str "")))))
    (sRet (cTup (cCons (cC (.str "halted")) (cCons (cVar 5) (cCons (cVar 3) (cCons (cVar 1) cNil))))))
    sPass)
    (sSeq (sIf (cB (cOp2 gEq (.v 5) (.v 2)))
    sBreak
    sPass)
    (sSeq (sSet 1 (cOp2 gAdd (.e (cFz (cSl (.v 1) (.e (cC (.int 1))) .none))) (.e (cFz (cIf (cB (cOp2 gEq (.e (cFz (cOp2 gIx (.v 1) (.e (cC (.int 0)))))) (.e (cC (.str "1"))))) (cOp2 gIx (.v 0) (.v 3)) (cD (cC (.str ""))))))))
    (sSeq (sSet 3 (cOp2 (gI2 CModB fun i j => i % j) (.e (cFz (cOp2 gAdd (.v 3) (.e (cC (.int 1)))))) (.e (cFz (cOpN gLen [.v 0])))))
    (sSeq (sIf (cB (cOp2 (gIn false) (.e (cFz (cTup (cCons (cVar 3) (cCons (cVar 1) cNil))))) (.v 4)))
    (sRet (cTup (cCons (cC (.str "again")) (cCons (cFz (cOp2 gAdd (.v 5) (.e (cC (.int 1))))) (cCons (cVar 3) (cCons (cVar 1) cNil))))))
    sPass)
    (sPut (cC (.bl true)) (.v 4) (cFz (cTup (cCons (cVar 3) (cCons (cVar 1) cNil)))))))))))
    (sRet (cTup (cCons (cC (.str "running")) (cCons (cVar 2) (cCons (cVar 3) (cCons (cVar 1) cNil)))))))))))
def f_cyclic_run : Fn := mkFn 3 6 b_cyclic_run
def b__law_cyclic : S → Fl :=
    (sSeq (sPar [3, 4] (wCons (cD (cC (.int 0))) (wCons (cDispT (cFz (cTup (cCons (cVar 1) (cCons (cC (.int 0)) cNil)))) (cC (.bl true))) wNil)))
    (sSeq (sFor (iRng gRng1 (cCons (cVar 2) cNil)) (gN 5)
    (sSeq (sIf (cB (cOp2 gEq (.v 1) (.e (cC (.str "")))))
    (sRet (cTup (cCons (cC (.str "halted")) (cCons (cVar 5) (cCons (cVar 3) (cCons (cVar 1) cNil))))))
    sPass)
    (sSeq (sPar [1, 3] (wCons (cOp2 gAdd (.e (cFz (cSl (.v 1) (.e (cC (.int 1))) .none))) (.e (cFz (cIf (cB (cOp2 gEq (.e (cFz (cOp2 gIx (.v 1) (.e (cC (.int 0)))))) (.e (cC (.str "1"))))) (cOp2 gIx (.v 0) (.v 3)) (cD (cC (.str ""))))))) (wCons (cOp2 (gI2 CModB fun i j => i % j) (.e (cFz (cOp2 gAdd (.v 3) (.e (cC (.int 1)))))) (.e (cFz (cOpN gLen [.v 0])))) wNil)))
    (sSeq (sIf (cB (cOp2 (gIn false) (.e (cFz (cTup (cCons (cVar 1) (cCons (cVar 3) cNil))))) (.v 4)))
    (sRet (cTup (cCons (cC (.str "again")) (cCons (cFz (cOp2 gAdd (.v 5) (.e (cC (.int 1))))) (cCons (cVar 3) (cCons (cVar 1) cNil))))))
    sPass)
    (sPut (cC (.bl true)) (.v 4) (cFz (cTup (cCons (cVar 1) (cCons (cVar 3) cNil)))))))))
    (sRet (cTup (cCons (cFz (cIf (cB (cOp2 gEq (.v 1) (.e (cC (.str ""))))) (cD (cC (.str "halted"))) (cD (cC (.str "running"))))) (cCons (cVar 2) (cCons (cVar 3) (cCons (cVar 1) cNil))))))))
def f__law_cyclic : Fn := mkFn 3 6 b__law_cyclic
def b__law_any_cyclic_right : S → Fl :=
    (sSeq (sSet 2 (cOpN gTupleS [.e (cFz (cComp (iRng gRng1 (cCons (cFz (cOp2 gAdd (.e (cC (.int 1))) (.e (cFz (cCall f__law_take (cCons (cRef 0) (cCons (cC (.int 5)) cNil)) []))))) cNil)) (.n 4) [4] cYes (cFz (cMth "str" gJoin (.e (cC (.str ""))) [.e (cFz (cComp (iRng gRng1 (cCons (cFz (cCall f__law_take (cCons (cRef 0) (cCons (cC (.int 4)) cNil)) [])) cNil)) (.n 3) [3] cYes (cFz (cOp2 gIx (.e (cC (.str "01"))) (.e (cFz (cCall f__law_take (cCons (cRef 0) (cCons (cC (.int 2)) cNil)) [])))))))]))))]))
    (sSeq (sPar [5, 6] (wCons (cMth "str" gJoin (.e (cC (.str ""))) [.e (cFz (cComp (iRng gRng1 (cCons (cFz (cCall f__law_take (cCons (cRef 0) (cCons (cC (.int 7)) cNil)) [])) cNil)) (.n 3) [3] cYes (cFz (cOp2 gIx (.e (cC (.str "01"))) (.e (cFz (cCall f__law_take (cCons (cRef 0) (cCons (cC (.int 2)) cNil)) [])))))))]) (wCons (cOp2 gIx (.e (cFz (cLst (cCons (cC (.int 0)) (cCons (cC (.int 1)) (cCons (cC (.int 5)) (cCons (cC (.int 20)) (cCons (cC (.int 60)) cNil)))))))) (.e (cFz (cCall f__law_take (cCons (cRef 0) (cCons (cC (.int 5)) cNil)) [])))) wNil)))
    (sSeq (sSet 7 (cIf (cB (cD (cVar 1))) (cCallK f_cyclic_run cNil (cCons (cVar 6) (cCons (cVar 5) (cCons (cVar 2) cNil))) [2, 1, 0]) (cCall f_cyclic_run (cCons (cVar 2) (cCons (cVar 5) (cCons (cVar 6) cNil))) [])))
    (sRet (cCall (f__law_same 6) (cCons (cVar 7) (cCons (cFz (cCall f__law_cyclic (cCons (cVar 2) (cCons (cVar 5) (cCons (cVar 6) cNil))) [])) cNil)) [])))))
def f__law_any_cyclic_right : Fn := mkFn 2 8 b__law_any_cyclic_right
def b_are_rules : S → Fl :=
    (sSeq (sIf (cOr (cNot (cB (cOpN (gIsi ["Tags"]) [.v 0, .e (cC (.ty "tuple"))]))) (cNot (cB (cChain (gB2 fun i j => decide (i ≤ j)) (gB2 fun i j => decide (i ≤ j)) (.e (cC (.int 1))) (.e (cFz (cOpN gLen [.v 0]))) (.e (cFz (cOpN gLen [.e (cC (.str "abcdef"))])))))))
    (sRet (cD (cC (.bl false))))
    sPass)
    (sRet (cOpN gAllB [.e (cFz (cComp (iSeq (cVar 0)) (.n 1) [1] cYes (cFz (cCall f_is_word_of (cCons (cVar 1) (cCons (cFz (cSl (.e (cC (.str "abcdef"))) .none (.e (cFz (cOpN gLen [.v 0]))))) (cCons (cC (.int (8))) cNil))) []))))])))
def f_are_rules : Fn := mkFn 1 2 b_are_rules
def b_Tags_init : S → Fl :=
    (sSeq (sIf (cNot (cB (cCall f_is_between (cCons (cVar 1) (cCons (cC (.int 1)) (cCons (cC (.int (4))) cNil))) [])))
    sNever
    sPass)
    (sSeq (sIf (cNot (cB (cCall f_are_rules (cCons (cVar 2) cNil) [])))
    sNever
    sPass)
    (sSeq (sFldS ["Tags"] "take" (cVar 1) (.v 0))
    (sFldS ["Tags"] "rules" (cVar 2) (.v 0)))))
def f_Tags_init : Fn := mkFn 3 3 b_Tags_init
def b_collatz_tags : S → Fl :=
    (sRet (cMake "Tags" f_Tags_init (cCons (cC (.int 2)) (cCons (cFz (cTup (cCons (cC (.str "bc")) (cCons (cC (.str "a")) (cCons (cC (.str "aaa")) cNil))))) cNil)) []))
def f_collatz_tags : Fn := mkFn 0 0 b_collatz_tags
def b_check_word : S → Fl :=
    (sIf (cNot (cB (cCall f_is_word_of (cCons (cVar 1) (cCons (cFz (cSl (.e (cC (.str "abcdef"))) .none (.e (cFz (cOpN gLen [.e (cFz (cOp1 (gFld ["Tags"] "rules") (.v 0)))]))))) (cCons (cC (.int (60))) cNil))) [])))
    sNever
    sPass)
def f_check_word : Fn := mkFn 2 2 b_check_word
def b_stepped : S → Fl :=
    (sSeq (sIf (cB (cOp2 (gB2 fun i j => decide (i < j)) (.e (cFz (cOpN gLen [.v 1]))) (.e (cFz (cOp1 (gFld ["Tags"] "take") (.v 0))))))
    (sRet (cD (cC .non)))
    sPass)
    (sRet (cOp2 gAdd (.e (cFz (cSl (.v 1) (.e (cFz (cOp1 (gFld ["Tags"] "take") (.v 0)))) .none))) (.e (cFz (cOp2 gIx (.e (cFz (cOp1 (gFld ["Tags"] "rules") (.v 0)))) (.e (cFz (cMth "str" gSIndex (.e (cC (.str "abcdef"))) [.e (cFz (cOp2 gIx (.v 1) (.e (cC (.int 0)))))])))))))))
def f_stepped : Fn := mkFn 2 2 b_stepped
def b_next_tag : S → Fl :=
    (sSeq (sExpr (cCall f_check_word (cCons (cVar 0) (cCons (cVar 1) cNil)) []))
    (sRet (cCall f_stepped (cCons (cVar 0) (cCons (cVar 1) cNil)) [])))
def f_next_tag : Fn := mkFn 2 2 b_next_tag
def b__law_next_tag : S → Fl :=
    (sRet (cIf (cB (cOp2 (gB2 fun i j => decide (j ≤ i)) (.e (cFz (cOpN gLen [.v 2]))) (.v 0))) (cOp2 gAdd (.e (cFz (cSl (.v 2) (.e (cVar 0)) .none))) (.e (cFz (cOp2 gIx (.v 1) (.e (cFz (cMth "str" gSIndex (.e (cC (.str "abcdef"))) [.e (cFz (cOp2 gIx (.v 2) (.e (cC (.int 0)))))]))))))) (cD (cC .non))))
def f__law_next_tag : Fn := mkFn 3 3 b__law_next_tag
def b_collatz_steps : S → Fl :=
    (sSeq (sIf (cNot (cB (cCall f_is_between (cCons (cVar 0) (cCons (cC (.int 1)) (cCons (cC (.int (60))) cNil))) [])))
    sNever
    sPass)
    (sSeq (sSet 1 (cD (cC (.int 0))))
    (sSeq (sWhile 1000000 (cB (cOp2 (gB2 fun i j => decide (j < i)) (.v 0) (.e (cC (.int 1)))))
    (sSeq (sAug 1 gAdd0 (cFz (cOp2 gAdd (.v 0) (.e (cFz (cOp2 (gI2 CModB fun i j => i % j) (.v 0) (.e (cC (.int 2)))))))))
    (sSet 0 (cIf (cB (cOp2 gEq (.e (cFz (cOp2 (gI2 CModB fun i j => i % j) (.v 0) (.e (cC (.int 2)))))) (.e (cC (.int 0))))) (cOp2 (gI2 CDivB fun i j => i / j) (.v 0) (.e (cC (.int 2)))) (cOp2 (gI2 CDivB fun i j => i / j) (.e (cFz (cOp2 gAdd (.e (cFz (cOp2 gMul (.e (cC (.int 3))) (.v 0)))) (.e (cC (.int 1)))))) (.e (cC (.int 2))))))))
    (sRetV 1))))
def f_collatz_steps : Fn := mkFn 1 2 b_collatz_steps
def b__law_collatz_right : S → Fl :=
    (sSeq (sSet 2 (cCall f_collatz_tags cNil []))
    (sSeq (sIf (cOr (cNot (cB (cOpN (gIsi ["Tags"]) [.v 2, .e (cC (.cls "Tags"))]))) (cNot (cB (cCall (f__law_same 6) (cCons (cFz (cLst (cCons (cFz (cOp1 (gFld ["Tags"] "take") (.v 2))) (cCons (cFz (cOp1 (gFld ["Tags"] "rules") (.v 2))) cNil)))) (cCons (cFz (cLst (cCons (cC (.int 2)) (cCons (cFz (cTup (cCons (cC (.str "bc")) (cCons (cC (.str "a")) (cCons (cC (.str "aaa")) cNil))))) cNil)))) cNil)) []))))
    (sRet (cD (cC (.bl false))))
    sPass)
    (sSeq (sFor (iSeq (cFz (cLst (cCons (cFz (cOp2 gAdd (.e (cC (.int 1))) (.e (cFz (cCall f__law_take (cCons (cRef 0) (cCons (cC (.int 8)) cNil)) []))))) (cCons (cFz (cOp2 gAdd (.e (cC (.int 1))) (.e (cFz (cCall f__law_take (cCons (cRef 0) (cCons (cC (.int 26)) cNil)) []))))) cNil))))) (gN 3)
    (sSeq (sPar [4, 5, 6] (wCons (cOp2 gMul (.e (cC (.str "a"))) (.v 3)) (wCons (cD (cC (.int 0))) (wCons (cLst (cCons (cVar 3) cNil)) wNil))))
    (sSeq (sWhile 1000000 (cB (cOp2 gNe (.v 4) (.e (cC (.str "a")))))
    (sSeq (sPar [4, 5] (wCons (cCall f__law_next_tag (cCons (cC (.int 2)) (cCons (cFz (cTup (cCons (cC (.str "bc")) (cCons (cC (.str "a")) (cCons (cC (.str "aaa")) cNil))))) (cCons (cVar 4) cNil))) []) (wCons (cOp2 gAdd (.v 5) (.e (cC (.int 1)))) wNil)))
    (sIf (cB (cOp2 gEq (.e (cFz (cComp (iSeq (cVar 4)) (.n 7) [7] (cB (cOp2 gNe (.v 7) (.e (cC (.str "a"))))) (cVar 7)))) (.e (cFz (cLst cNil)))))
    (sExpr (cMut "list" (.v 6) (cCons (cFz (cOpN gLen [.v 4])) cNil) gAppend))
    sPass)))
    (sSeq (sIf (cNot (cB (cCall (f__law_same 6) (cCons (cFz (cIf (cB (cD (cVar 1))) (cCallK f_collatz_steps cNil (cCons (cVar 3) cNil) [0]) (cCall f_collatz_steps (cCons (cVar 3) cNil) []))) (cCons (cVar 5) cNil)) [])))
    (sRet (cD (cC (.bl false))))
    sPass)
    (sSeq (sFor (iRng gRng2 (cCons (cC (.int 1)) (cCons (cFz (cOpN gLen [.v 6])) cNil))) (gN 8)
    (sSeq (sSet 9 (cOp2 gIx (.v 6) (.e (cFz (cOp2 (gI2 CYes fun i j => i - j) (.v 8) (.e (cC (.int 1))))))))
    (sIf (cB (cOp2 gNe (.e (cFz (cOp2 gIx (.v 6) (.v 8)))) (.e (cFz (cIf (cB (cOp2 gEq (.e (cFz (cOp2 (gI2 CModB fun i j => i % j) (.v 9) (.e (cC (.int 2)))))) (.e (cC (.int 0))))) (cOp2 (gI2 CDivB fun i j => i / j) (.v 9) (.e (cC (.int 2)))) (cOp2 (gI2 CDivB fun i j => i / j) (.e (cFz (cOp2 gAdd (.e (cFz (cOp2 gMul (.e (cC (.int 3))) (.v 9)))) (.e (cC (.int 1)))))) (.e (cC (.int 2)))))))))
    (sRet (cD (cC (.bl false))))
    sPass)))
    (sSeq (sSet 10 (cCall f__law_take (cCons (cRef 0) (cCons (cFz (cOpN gLen [.v 6])) cNil)) []))
    (sSeq (sSet 11 (cOp2 gMul (.e (cC (.str "a"))) (.e (cFz (cOp2 gIx (.v 6) (.v 10))))))
    (sSeq (sFor (iRng gRng1 (cCons (cFz (cIf (cB (cOp2 gEq (.e (cFz (cOp2 (gI2 CModB fun i j => i % j) (.e (cFz (cOp2 gIx (.v 6) (.v 10)))) (.e (cC (.int 2)))))) (.e (cC (.int 0))))) (cOp2 gIx (.v 6) (.v 10)) (cOp2 gAdd (.e (cFz (cOp2 gIx (.v 6) (.v 10)))) (.e (cC (.int 1)))))) cNil)) (gN 12)
    (sSeq (sIf (cOr (cB (cOp2 (gB2 fun i j => decide (j < i)) (.e (cFz (cOpN gLen [.v 11]))) (.e (cC (.int 60))))) (cB (cOp2 gEq (.v 11) (.e (cC (.str "a"))))))
    sBreak
    sPass)
    (sSet 11 (cCall f_next_tag (cCons (cVar 2) (cCons (cVar 11) cNil)) []))))
    (sIf (cAnd (cB (cOp2 (gB2 fun i j => decide (j < i)) (.e (cFz (cOp2 gIx (.v 6) (.v 10)))) (.e (cC (.int 1))))) (cAnd (cB (cOp2 (gB2 fun i j => decide (i < j)) (.e (cFz (cOp2 gIx (.v 6) (.v 10)))) (.e (cC (.int 30))))) (cNot (cB (cCall (f__law_same 6) (cCons (cVar 11) (cCons (cFz (cOp2 gMul (.e (cC (.str "a"))) (.e (cFz (cOp2 gIx (.v 6) (.e (cFz (cOp2 gAdd (.v 10) (.e (cC (.int 1))))))))))) cNil)) [])))))
    (sRet (cD (cC (.bl false))))
    sPass)))))))))
    (sRet (cD (cC (.bl true)))))))
def f__law_collatz_right : Fn := mkFn 2 13 b__law_collatz_right
def b__law_way : S → Fl :=
    (sSeq (sSet 4 (cLst (cCons (cVar 2) cNil)))
    (sSeq (sFor (iRng gRng1 (cCons (cVar 3) cNil)) (gN 5)
    (sSeq (sSet 6 (cCall f__law_next_tag (cCons (cVar 0) (cCons (cVar 1) (cCons (cFz (cOp2 gIx (.v 4) (.e (cFz (cOp1 gNeg (.e (cC (.int 1)))))))) cNil))) []))
    (sSeq (sIf (cB (cOp2 (gIsN false) (.v 6) (.e (cC .non))))
    (sRet (cTup (cCons (cVar 4) (cCons (cC (.str "halted")) cNil))))
    sPass)
    (sSeq (sExpr (cMut "list" (.v 4) (cCons (cVar 6) cNil) gAppend))
    (sIf (cB (cOp2 (gIn false) (.v 6) (.e (cFz (cSl (.v 4) .none (.e (cFz (cOp1 gNeg (.e (cC (.int 1)))))))))))
    (sRet (cTup (cCons (cVar 4) (cCons (cC (.str "again")) cNil))))
    sPass)))))
    (sRet (cTup (cCons (cVar 4) (cCons (cFz (cIf (cB (cOp2 (gIsN false) (.e (cFz (cCall f__law_next_tag (cCons (cVar 0) (cCons (cVar 1) (cCons (cFz (cOp2 gIx (.v 4) (.e (cFz (cOp1 gNeg (.e (cC (.int 1)))))))) cNil))) []))) (.e (cC .non)))) (cD (cC (.str "halted"))) (cD (cC (.str "running"))))) cNil))))))
def f__law_way : Fn := mkFn 4 7 b__law_way
def b_is_tuple_of : S → Fl :=
    (sRet (cAndV (cOpN (gIsi ["Tags"]) [.v 0, .e (cC (.ty "tuple"))]) (cOp2 gEq (.e (cFz (cOpN gLen [.v 0]))) (.v 1))))
def f_is_tuple_of : Fn := mkFn 2 2 b_is_tuple_of
def b_are_names : S → Fl :=
    (sSeq (sIf (cOr (cNot (cB (cOpN (gIsi ["Tags"]) [.v 1, .e (cC (.ty "tuple"))]))) (cB (cOp2 (gB2 fun i j => decide (j < i)) (.e (cFz (cOpN gLen [.v 1]))) (.v 2))))
    (sRet (cD (cC (.bl false))))
    sPass)
    (sRet (cOpN gAllB [.e (cFz (cComp (iSeq (cVar 1)) (.n 3) [3] cYes (cFz (cAndV (cOpN (gIsi ["Tags"]) [.v 3, .e (cC (.ty "str"))]) (cOp2 (gIn false) (.v 3) (.v 0))))))])))
def f_are_names : Fn := mkFn 3 4 b_are_names
def b_is_name : S → Fl :=
    (sRet (cAndV (cOp2 gNe (.v 0) (.e (cC (.str "")))) (cCall f_is_word_of (cCons (cVar 0) (cCons (cFz (cOp2 gAdd (.e (cC (.str "abcdefghijklmnopqrstuvwxyz"))) (.e (cC (.str "0123456789"))))) (cCons (cC (.int (4))) cNil))) [])))
def f_is_name : Fn := mkFn 1 1 b_is_name
def b_is_system_machinetags : S → Fl :=
    (sSeq (sIf (cOr (cNot (cB (cCall f_is_tuple_of (cCons (cVar 0) (cCons (cC (.int 2)) cNil)) []))) (cOr (cNot (cB (cCall f_is_between (cCons (cFz (cOp2 gIx (.v 0) (.e (cC (.int 0))))) (cCons (cC (.int 1)) (cCons (cC (.int (4))) cNil))) []))) (cNot (cB (cOpN (gIsi ["Tags"]) [.e (cFz (cOp2 gIx (.v 0) (.e (cC (.int 1))))), .e (cC (.ty "dict"))])))))
    (sRet (cD (cC (.bl false))))
    sPass)
    (sSeq (sSet 1 (cOp2 gIx (.v 0) (.e (cC (.int 1)))))
    (sSeq (sIf (cOr (cNot (cB (cChain (gB2 fun i j => decide (i ≤ j)) (gB2 fun i j => decide (i ≤ j)) (.e (cC (.int 1))) (.e (cFz (cOpN gLen [.v 1]))) (.e (cC (.int (200))))))) (cNot (cB (cOpN gAllB [.e (cFz (cLock 1 (cComp (iDk 1) (.n 2) [2] cYes (cFz (cCall f_is_name (cCons (cVar 2) cNil) [])))))]))))
    (sRet (cD (cC (.bl false))))
    sPass)
    (sRet (cOpN gAllB [.e (cFz (cLock 1 (cComp (iDv 1) (.n 3) [3] cYes (cFz (cCall f_are_names (cCons (cVar 1) (cCons (cVar 3) (cCons (cC (.int (8))) cNil))) [])))))])))))
def f_is_system_machinetags : Fn := mkFn 1 4 b_is_system_machinetags
def b_great_run : S → Fl :=
    (sSeq (sIf (cNot (cB (cCall f_is_system_machinetags (cCons (cVar 0) cNil) [])))
    sNever
    sPass)
    (sSeq (sUnp (cVar 0) (gT [gN 3, gN 4]))
    (sSeq (sIf (cNot (cB (cCall f_are_names (cCons (cVar 4) (cCons (cVar 1) (cCons (cC (.int (1000))) cNil))) [])))
    sNever
    sPass)
    (sSeq (sExpr (cCall f_check_steps (cCons (cVar 2) (cCons (cC (.int (2000))) cNil)) []))
    (sSeq (sSet 5 (cD (cC (.int 0))))
    (sSeq (sWhile 1000000 (cAnd (cB (cOp2 (gB2 fun i j => decide (i < j)) (.v 5) (.v 2))) (cB (cOp2 (gB2 fun i j => decide (j ≤ i)) (.e (cFz (cOpN gLen [.v 1]))) (.v 3))))
    (sSeq (sSet 1 (cOp2 gAdd (.e (cFz (cSl (.v 1) (.e (cVar 3)) .none))) (.e (cFz (cOp2 gIx (.v 4) (.e (cFz (cOp2 gIx (.v 1) (.e (cC (.int 0)))))))))))
    (sAug 5 gAdd0 (cC (.int 1)))))
    (sRet (cTup (cCons (cVar 1) (cCons (cVar 5) cNil))))))))))
def f_great_run : Fn := mkFn 3 6 b_great_run
def b_check_run : S → Fl :=
    (sSeq (sExpr (cCall f_check_word (cCons (cVar 0) (cCons (cVar 1) cNil)) []))
    (sExpr (cCall f_check_steps (cCons (cVar 2) (cCons (cC (.int (500))) cNil)) [])))
def f_check_run : Fn := mkFn 3 3 b_check_run
def b_ran : S → Fl :=
    (sSeq (sSet 3 (cDisp [((cVar 1), (cC (.int 0)))]))
    (sSeq (sFor (iRng gRng1 (cCons (cFz (cOp2 gAdd (.v 2) (.e (cC (.int 1))))) cNil)) (gN 4)
    (sSeq (sSet 5 (cCall f_stepped (cCons (cVar 0) (cCons (cVar 1) cNil)) []))
    (sSeq (sIf (cB (cOp2 (gIsN false) (.v 5) (.e (cC .non))))
    (sRet (cTup (cCons (cC (.str "halted")) (cCons (cVar 4) (cCons (cVar 1) (cCons (cC .non) cNil))))))
    sPass)
    (sSeq (sIf (cB (cOp2 gEq (.v 4) (.v 2)))
    sBreak
    sPass)
    (sSeq (sIf (cB (cOp2 (gIn false) (.v 5) (.v 3)))
    (sRet (cTup (cCons (cC (.str "again")) (cCons (cFz (cOp2 gAdd (.v 4) (.e (cC (.int 1))))) (cCons (cVar 5) (cCons (cFz (cOp2 gIx (.v 3) (.v 5))) cNil))))))
    sPass)
    (sSeq (sPut (cFz (cOp2 gAdd (.v 4) (.e (cC (.int 1))))) (.v 3) (cVar 5))
    (sSet 1 (cD (cVar 5)))))))))
    (sRet (cTup (cCons (cC (.str "running")) (cCons (cVar 2) (cCons (cVar 1) (cCons (cC .non) cNil))))))))
def f_ran : Fn := mkFn 3 6 b_ran
def b_tag_run : S → Fl :=
    (sSeq (sExpr (cCall f_check_run (cCons (cVar 0) (cCons (cVar 1) (cCons (cVar 2) cNil))) []))
    (sSeq (sUnp (cFz (cCall f_ran (cCons (cVar 0) (cCons (cVar 1) (cCons (cVar 2) cNil))) [])) (gT [gN 3, gN 4, gN 5, gN 6]))
    (sRet (cTup (cCons (cVar 3) (cCons (cVar 4) (cCons (cVar 5) cNil)))))))
def f_tag_run : Fn := mkFn 3 7 b_tag_run
def b_tag_fate : S → Fl :=
    (sSeq (sExpr (cCall f_check_run (cCons (cVar 0) (cCons (cVar 1) (cCons (cVar 2) cNil))) []))
    (sSeq (sUnp (cFz (cCall f_ran (cCons (cVar 0) (cCons (cVar 1) (cCons (cVar 2) cNil))) [])) (gT [gN 3, gN 4, gN 5, gN 6]))
    (sSeq (sIf (cB (cOp2 gEq (.v 3) (.e (cC (.str "halted")))))
    (sRet (cTup (cCons (cC (.str "halts")) (cCons (cVar 4) cNil))))
    sPass)
    (sRet (cIf (cB (cOp2 gEq (.v 3) (.e (cC (.str "again"))))) (cTup (cCons (cC (.str "again")) (cCons (cVar 6) (cCons (cVar 4) cNil)))) (cTup (cCons (cC (.str "open")) cNil)))))))
def f_tag_fate : Fn := mkFn 3 7 b_tag_fate
def b__law_tags_right : S → Fl :=
    (sSeq (sSet 5 (cIf (cB (cD (cVar 4))) (cMakeK "Tags" f_Tags_init cNil (cCons (cVar 2) (cCons (cVar 1) cNil)) [1, 0]) (cMake "Tags" f_Tags_init (cCons (cVar 1) (cCons (cVar 2) cNil)) [])))
    (sSeq (sSet 6 (cOp2 gIx (.e (cFz (cLst (cCons (cC (.int 0)) (cCons (cC (.int 3)) (cCons (cC (.int 12)) (cCons (cC (.int 30)) (cCons (cC (.int 60)) cNil)))))))) (.e (cFz (cCall f__law_take (cCons (cRef 0) (cCons (cC (.int 5)) cNil)) [])))))
    (sSeq (sUnp (cFz (cCall f__law_way (cCons (cVar 1) (cCons (cVar 2) (cCons (cVar 3) (cCons (cVar 6) cNil)))) [])) (gT [gN 7, gN 8]))
    (sSeq (sSet 9 (cOp2 (gI2 CYes fun i j => i - j) (.e (cFz (cOpN gLen [.v 7]))) (.e (cC (.int 1)))))
    (sSeq (sSet 10 (cIf (cB (cD (cVar 4))) (cLst (cCons (cFz (cCallK f_tag_run cNil (cCons (cVar 6) (cCons (cVar 3) (cCons (cVar 5) cNil))) [2, 1, 0])) (cCons (cFz (cCall f_tag_fate (cCons (cVar 5) (cCons (cVar 3) (cCons (cVar 6) cNil))) [])) cNil))) (cLst (cCons (cFz (cCall f_tag_run (cCons (cVar 5) (cCons (cVar 3) (cCons (cVar 6) cNil))) [])) (cCons (cFz (cCallK f_tag_fate cNil (cCons (cVar 6) (cCons (cVar 3) (cCons (cVar 5) cNil))) [2, 1, 0])) cNil)))))
    (sSeq (sSet 11 (cIf (cB (cOp2 gEq (.v 8) (.e (cC (.str "halted"))))) (cTup (cCons (cC (.str "halts")) (cCons (cVar 9) cNil))) (cIf (cB (cOp2 gEq (.v 8) (.e (cC (.str "again"))))) (cTup (cCons (cC (.str "again")) (cCons (cFz (cMth "list" gIndex (.v 7) [.e (cFz (cOp2 gIx (.v 7) (.e (cFz (cOp1 gNeg (.e (cC (.int 1))))))))])) (cCons (cVar 9) cNil)))) (cTup (cCons (cC (.str "open")) cNil)))))
    (sSeq (sIf (cNot (cB (cCall (f__law_same 6) (cCons (cVar 10) (cCons (cFz (cLst (cCons (cFz (cTup (cCons (cVar 8) (cCons (cFz (cIf (cB (cOp2 gNe (.v 8) (.e (cC (.str "running"))))) (cD (cVar 9)) (cD (cVar 6)))) (cCons (cFz (cOp2 gIx (.v 7) (.e (cFz (cOp1 gNeg (.e (cC (.int 1)))))))) cNil))))) (cCons (cVar 11) cNil)))) cNil)) [])))
    (sRet (cD (cC (.bl false))))
    sPass)
    (sSeq (sFor (iRng gRng1 (cCons (cFz (cOpN gMin2 [.v 9, .e (cC (.int 6))])) cNil)) (gN 12)
    (sIf (cNot (cB (cCall (f__law_same 6) (cCons (cFz (cIf (cB (cD (cVar 4))) (cCallK f_next_tag cNil (cCons (cFz (cOp2 gIx (.v 7) (.v 12))) (cCons (cVar 5) cNil)) [1, 0]) (cCall f_next_tag (cCons (cVar 5) (cCons (cFz (cOp2 gIx (.v 7) (.v 12))) cNil)) []))) (cCons (cFz (cOp2 gIx (.v 7) (.e (cFz (cOp2 gAdd (.v 12) (.e (cC (.int 1)))))))) cNil)) [])))
    (sRet (cD (cC (.bl false))))
    sPass))
    (sSeq (sIf (cAnd (cB (cOp2 gEq (.v 8) (.e (cC (.str "halted"))))) (cB (cOp2 (gIsN true) (.e (cFz (cCall f_next_tag (cCons (cVar 5) (cCons (cFz (cOp2 gIx (.v 7) (.e (cFz (cOp1 gNeg (.e (cC (.int 1)))))))) cNil)) []))) (.e (cC .non)))))
    (sRet (cD (cC (.bl false))))
    sPass)
    (sSeq (sSet 13 (cTup (cCons (cVar 1) (cCons (cFz (cOpN gDict [.e (cFz (cComp (iRng gRng1 (cCons (cFz (cOpN gLen [.v 2])) cNil)) (.n 12) [12] cYes (cFz (cTup (cCons (cFz (cOp2 gIx (.e (cC (.str "abcdef"))) (.v 12))) (cCons (cFz (cOpN gTupleS [.e (cFz (cOp2 gIx (.v 2) (.v 12)))])) cNil))))))])) cNil))))
    (sSeq (sSet 14 (cIf (cB (cOp2 gNe (.v 8) (.e (cC (.str "running"))))) (cD (cVar 9)) (cD (cVar 6))))
    (sSeq (sSet 15 (cCallK f_great_run cNil (cCons (cFz (cIf (cB (cOp2 gEq (.v 8) (.e (cC (.str "halted"))))) (cOp2 gAdd (.v 14) (.e (cC (.int 2)))) (cD (cVar 14)))) (cCons (cFz (cOpN gTupleS [.v 3])) (cCons (cVar 13) cNil))) [2, 1, 0]))
    (sRet (cCall (f__law_same 6) (cCons (cVar 15) (cCons (cFz (cTup (cCons (cFz (cOpN gTupleS [.e (cFz (cOp2 gIx (.v 7) (.e (cFz (cOp1 gNeg (.e (cC (.int 1))))))))])) (cCons (cVar 14) cNil)))) cNil)) []))))))))))))))
def f__law_tags_right : Fn := mkFn 5 16 b__law_tags_right
def b_check_tags : S → Fl :=
    (sIf (cB (cOp2 gNe (.e (cFz (cOp1 (gFld ["Tags"] "take") (.v 0)))) (.e (cC (.int 2)))))
    sNever
    sPass)
def f_check_tags : Fn := mkFn 1 1 b_check_tags
def b_signs_of : S → Fl :=
    (sSeq (sSet 2 (cD (cC (.str ""))))
    (sSeq (sFor (iSeq (cVar 1)) (gN 3)
    (sSeq (sSet 4 (cMth "str" gSIndex (.e (cC (.str "abcdef"))) [.v 3]))
    (sSet 2 (cOp2 gAdd (.e (cFz (cOp2 gAdd (.e (cFz (cOp2 gAdd (.v 2) (.e (cFz (cOp2 gMul (.e (cC (.str "0"))) (.v 4))))))) (.e (cC (.str "1")))))) (.e (cFz (cOp2 gMul (.e (cC (.str "0"))) (.e (cFz (cOp2 (gI2 CYes fun i j => i - j) (.e (cFz (cOp2 (gI2 CYes fun i j => i - j) (.v 0) (.e (cC (.int 1)))))) (.v 4)))))))))))
    (sRetV 2)))
def f_signs_of : Fn := mkFn 2 5 b_signs_of
def b_to_cyclic : S → Fl :=
    (sSeq (sExpr (cCall f_check_tags (cCons (cVar 0) cNil) []))
    (sSeq (sSet 1 (cOpN gLen [.e (cFz (cOp1 (gFld ["Tags"] "rules") (.v 0)))]))
    (sRet (cOp2 gAdd (.e (cFz (cOpN gTupleS [.e (cFz (cComp (iSeq (cFz (cOp1 (gFld ["Tags"] "rules") (.v 0)))) (.n 2) [2] cYes (cFz (cCall f_signs_of (cCons (cVar 1) (cCons (cVar 2) cNil)) []))))]))) (.e (cFz (cOp2 gMul (.e (cFz (cTup (cCons (cC (.str "")) cNil)))) (.v 1))))))))
def f_to_cyclic : Fn := mkFn 1 3 b_to_cyclic
def b_cyclic_word : S → Fl :=
    (sSeq (sExpr (cCall f_check_tags (cCons (cVar 0) cNil) []))
    (sSeq (sExpr (cCall f_check_word (cCons (cVar 0) (cCons (cVar 1) cNil)) []))
    (sRet (cCall f_signs_of (cCons (cFz (cOpN gLen [.e (cFz (cOp1 (gFld ["Tags"] "rules") (.v 0)))])) (cCons (cVar 1) cNil)) []))))
def f_cyclic_word : Fn := mkFn 2 2 b_cyclic_word
def b__law_signs : S → Fl :=
    (sRet (cMth "str" gJoin (.e (cC (.str ""))) [.e (cFz (cComp (iSeq (cVar 1)) (.n 3) [3] cYes (cFz (cMth "str" gJoin (.e (cC (.str ""))) [.e (cFz (cComp (iRng gRng1 (cCons (cVar 0) cNil)) (.n 2) [2] cYes (cFz (cIf (cB (cOp2 gEq (.e (cFz (cOp2 gIx (.e (cC (.str "abcdef"))) (.v 2)))) (.v 3))) (cD (cC (.str "1"))) (cD (cC (.str "0")))))))]))))]))
def f__law_signs : Fn := mkFn 2 4 b__law_signs
def b_from_cyclic_word : S → Fl :=
    (sSeq (sExpr (cCall f_check_tags (cCons (cVar 0) cNil) []))
    (sSeq (sExpr (cCall f_check_signs (cCons (cVar 1) cNil) []))
    (sSeq (sPar [2, 3] (wCons (cOpN gLen [.e (cFz (cOp1 (gFld ["Tags"] "rules") (.v 0)))]) (wCons (cD (cC (.str ""))) wNil)))
    (sSeq (sFor (iRng gRng3 (cCons (cC (.int 0)) (cCons (cFz (cOpN gLen [.v 1])) (cCons (cVar 2) cNil)))) (gN 4)
    (sSeq (sSet 5 (cSl (.v 1) (.e (cVar 4)) (.e (cFz (cOp2 gAdd (.v 4) (.v 2))))))
    (sSeq (sIf (cOr (cB (cOp2 (gB2 fun i j => decide (i < j)) (.e (cFz (cOpN gLen [.v 5]))) (.v 2))) (cB (cOp2 gNe (.e (cFz (cMth "str" gSCount (.v 5) [.e (cC (.str "1"))]))) (.e (cC (.int 1))))))
    (sRet (cD (cC .non)))
    sPass)
    (sSet 3 (cOp2 gAdd (.v 3) (.e (cFz (cOp2 gIx (.e (cC (.str "abcdef"))) (.e (cFz (cMth "str" gSIndex (.v 5) [.e (cC (.str "1"))])))))))))))
    (sRetV 3)))))
def f_from_cyclic_word : Fn := mkFn 2 6 b_from_cyclic_word
def b__law_letters : S → Fl :=
    (sSeq (sSet 2 (cD (cC (.str ""))))
    (sSeq (sIf (cB (cOp2 gNe (.e (cFz (cOp2 (gI2 CModB fun i j => i % j) (.e (cFz (cOpN gLen [.v 1]))) (.v 0)))) (.e (cC (.int 0)))))
    (sRet (cD (cC .non)))
    sPass)
    (sSeq (sFor (iRng gRng3 (cCons (cC (.int 0)) (cCons (cFz (cOpN gLen [.v 1])) (cCons (cVar 0) cNil)))) (gN 3)
    (sSeq (sSet 4 (cSl (.v 1) (.e (cVar 3)) (.e (cFz (cOp2 gAdd (.v 3) (.v 0))))))
    (sSeq (sIf (cB (cOp2 gNe (.e (cFz (cOpN gLen [.e (cFz (cComp (iSeq (cVar 4)) (.n 5) [5] (cB (cOp2 gEq (.v 5) (.e (cC (.str "1"))))) (cVar 5)))]))) (.e (cC (.int 1)))))
    (sRet (cD (cC .non)))
    sPass)
    (sSet 2 (cOp2 gAdd (.v 2) (.e (cFz (cOp2 gIx (.e (cC (.str "abcdef"))) (.e (cFz (cMth "str" gSIndex (.v 4) [.e (cC (.str "1"))])))))))))))
    (sRetV 2))))
def f__law_letters : Fn := mkFn 2 6 b__law_letters
def b__law_cyclic_right : S → Fl :=
    (sSeq (sSet 4 (cOpN gLen [.v 1]))
    (sSeq (sSet 5 (cMake "Tags" f_Tags_init (cCons (cC (.int 2)) (cCons (cVar 1) cNil)) []))
    (sSeq (sSet 6 (cIf (cB (cD (cVar 3))) (cCallK f_to_cyclic cNil (cCons (cVar 5) cNil) [0]) (cCall f_to_cyclic (cCons (cVar 5) cNil) [])))
    (sSeq (sIf (cNot (cB (cCall (f__law_same 6) (cCons (cVar 6) (cCons (cFz (cOpN gTupleS [.e (cFz (cOp2 gAdd (.e (cFz (cComp (iSeq (cVar 1)) (.n 7) [7] cYes (cFz (cCall f__law_signs (cCons (cVar 4) (cCons (cVar 7) cNil)) []))))) (.e (cFz (cOp2 gMul (.e (cFz (cLst (cCons (cC (.str "")) cNil)))) (.v 4))))))])) cNil)) [])))
    (sRet (cD (cC (.bl false))))
    sPass)
    (sSeq (sUnp (cFz (cCall f__law_way (cCons (cC (.int 2)) (cCons (cVar 1) (cCons (cVar 2) (cCons (cC (.int 12)) cNil)))) [])) (gT [gN 8, gN 9]))
    (sSeq (sSet 10 (cIf (cB (cD (cVar 3))) (cCallK f_cyclic_word cNil (cCons (cVar 2) (cCons (cVar 5) cNil)) [1, 0]) (cCall f_cyclic_word (cCons (cVar 5) (cCons (cVar 2) cNil)) [])))
    (sSeq (sIf (cNot (cB (cCall (f__law_same 6) (cCons (cVar 10) (cCons (cFz (cCall f__law_signs (cCons (cVar 4) (cCons (cVar 2) cNil)) [])) cNil)) [])))
    (sRet (cD (cC (.bl false))))
    sPass)
    (sSeq (sFor (iRng gRng1 (cCons (cFz (cOpN gLen [.v 8])) cNil)) (gN 11)
    (sSeq (sSet 12 (cOp2 gMul (.e (cFz (cOp2 gMul (.e (cC (.int 2))) (.v 4)))) (.v 11)))
    (sSeq (sIf (cOr (cB (cOp2 (gB2 fun i j => decide (j < i)) (.v 12) (.e (cC (.int 500))))) (cOr (cB (cOp2 (gB2 fun i j => decide (j < i)) (.e (cFz (cOpN gLen [.e (cFz (cOp2 gIx (.v 8) (.v 11)))]))) (.e (cC (.int 60))))) (cB (cOp2 gNe (.e (cFz (cComp (iSeq (cFz (cSl (.v 8) .none (.e (cVar 11))))) (.n 13) [13] (cB (cOp2 gEq (.v 13) (.e (cFz (cOp2 gIx (.v 8) (.v 11)))))) (cVar 13)))) (.e (cFz (cLst cNil)))))))
    sBreak
    sPass)
    (sSeq (sSet 14 (cIf (cB (cD (cVar 3))) (cCallK f_cyclic_run cNil (cCons (cVar 12) (cCons (cVar 10) (cCons (cVar 6) cNil))) [2, 1, 0]) (cCall f_cyclic_run (cCons (cVar 6) (cCons (cVar 10) (cCons (cVar 12) cNil))) [])))
    (sSeq (sSet 15 (cCall f__law_cyclic (cCons (cVar 6) (cCons (cVar 10) (cCons (cVar 12) cNil))) []))
    (sSeq (sIf (cOr (cNot (cB (cCall (f__law_same 6) (cCons (cVar 14) (cCons (cVar 15) cNil)) []))) (cAnd (cB (cOp2 gEq (.e (cFz (cOp2 gIx (.v 15) (.e (cC (.int 0)))))) (.e (cC (.str "running"))))) (cNot (cB (cCall (f__law_same 6) (cCons (cFz (cLst (cCons (cFz (cOp2 gIx (.v 14) (.e (cC (.int 2))))) (cCons (cFz (cOp2 gIx (.v 14) (.e (cC (.int 3))))) cNil)))) (cCons (cFz (cLst (cCons (cC (.int 0)) (cCons (cFz (cCall f__law_signs (cCons (cVar 4) (cCons (cFz (cOp2 gIx (.v 8) (.v 11))) cNil)) [])) cNil)))) cNil)) [])))))
    (sRet (cD (cC (.bl false))))
    sPass)
    (sIf (cAnd (cB (cOp2 gEq (.e (cFz (cOp2 gIx (.v 15) (.e (cC (.int 0)))))) (.e (cC (.str "running"))))) (cNot (cB (cCall (f__law_same 6) (cCons (cFz (cIf (cB (cD (cVar 3))) (cCallK f_from_cyclic_word cNil (cCons (cFz (cOp2 gIx (.v 14) (.e (cC (.int 3))))) (cCons (cVar 5) cNil)) [1, 0]) (cCall f_from_cyclic_word (cCons (cVar 5) (cCons (cFz (cOp2 gIx (.v 14) (.e (cC (.int 3))))) cNil)) []))) (cCons (cFz (cOp2 gIx (.v 8) (.v 11))) cNil)) []))))
    (sRet (cD (cC (.bl false))))
    sPass)))))))
    (sSeq (sFor (iRng gRng1 (cCons (cC (.int 6)) cNil)) (gN 16)
    (sSeq (sSet 17 (cMth "str" gJoin (.e (cC (.str ""))) [.e (cFz (cComp (iRng gRng1 (cCons (cFz (cOp2 gAdd (.e (cFz (cOp2 gMul (.v 4) (.e (cFz (cCall f__law_take (cCons (cRef 0) (cCons (cC (.int 4)) cNil)) [])))))) (.e (cFz (cOpN gInt [.e (cFz (cOp2 gEq (.e (cFz (cCall f__law_take (cCons (cRef 0) (cCons (cC (.int 5)) cNil)) []))) (.e (cC (.int 0)))))]))))) cNil)) (.n 11) [11] cYes (cFz (cOp2 gIx (.e (cC (.str "01"))) (.e (cFz (cOpN gInt [.e (cFz (cOp2 gEq (.e (cFz (cCall f__law_take (cCons (cRef 0) (cCons (cFz (cOp2 gAdd (.v 4) (.e (cC (.int 1))))) cNil)) []))) (.e (cC (.int 0)))))])))))))]))
    (sIf (cNot (cB (cCall (f__law_same 6) (cCons (cFz (cCall f_from_cyclic_word (cCons (cVar 5) (cCons (cVar 17) cNil)) [])) (cCons (cFz (cCall f__law_letters (cCons (cVar 4) (cCons (cVar 17) cNil)) [])) cNil)) [])))
    (sRet (cD (cC (.bl false))))
    sPass)))
    (sRet (cD (cC (.bl true)))))))))))))
def f__law_cyclic_right : Fn := mkFn 4 18 b__law_cyclic_right
def b__law_right : S → Fl :=
    (sSeq (sSet 1 (cOp2 gEq (.e (cFz (cCall f__law_take (cCons (cRef 0) (cCons (cC (.int 2)) cNil)) []))) (.e (cC (.int 1)))))
    (sSeq (sFor (iRng gRng1 (cCons (cC (.int 2)) cNil)) (gN 2)
    (sSeq (sUnp (cFz (cCall f__law_drawn (cCons (cRef 0) cNil) [])) (gT [gN 3, gN 4, gN 5]))
    (sIf (cOr (cNot (cB (cCall f__law_tags_right (cCons (cRef 0) (cCons (cVar 3) (cCons (cVar 4) (cCons (cVar 5) (cCons (cVar 1) cNil))))) []))) (cNot (cB (cCall f__law_cyclic_right (cCons (cRef 0) (cCons (cFz (cOpN gTupleS [.e (cFz (cComp (iSeq (cVar 4)) (.n 6) [6] cYes (cFz (cSl (.v 6) .none (.e (cC (.int 8)))))))])) (cCons (cFz (cSl (.v 5) .none (.e (cC (.int 6))))) (cCons (cFz (cNotV (cD (cVar 1)))) cNil)))) []))))
    (sRet (cD (cC (.bl false))))
    sPass)))
    (sRet (cAndV (cCall f__law_any_cyclic_right (cCons (cRef 0) (cCons (cVar 1) cNil)) []) (cCall f__law_collatz_right (cCons (cRef 0) (cCons (cFz (cNotV (cD (cVar 1)))) cNil)) [])))))
def f__law_right : Fn := mkFn 1 7 b__law_right
def b__law_box : S → Fl :=
    (sRet (cLst (cCons (cFz (cOpN gAbs [.v 0])) (cCons (cFz (cOp2 (gB2 fun i j => decide (j ≤ i)) (.e (cFz (cOpN gAbs [.v 0]))) (.e (cFz (cOp2 (gI2 CPowB fun i j => i ^ j.toNat) (.e (cC (.int 10))) (.e (cC (.int 18)))))))) (cCons (cFz (cOp2 (gI2 CModB fun i j => i % j) (.e (cFz (cOpN gInt [.e (cFz (cOpN gAbs [.v 0]))]))) (.e (cC (.int 2147483629))))) (cCons (cC (.int 0)) cNil))))))
def f__law_box : Fn := mkFn 1 1 b__law_box
def b__law_cell : S → Fl :=
    (sRet (cIf (cB (cOp2 (gB2 fun i j => decide (i < j)) (.v 1) (.e (cFz (cOpN gLen [.v 0]))))) (cOp2 gIx (.v 0) (.v 1)) (cOp2 gAdd (.e (cFz (cOp2 gMul (.e (cC (.int 6007))) (.v 1)))) (.e (cFz (cOp2 (gI2 CModB fun i j => i % j) (.e (cFz (cOpN gInt [.e (cFz (cOpN gSum [.e (cFz (cSl (.v 0) .none (.e (cC (.int 1)))))]))]))) (.e (cC (.int 1000033)))))))))
def f__law_cell : Fn := mkFn 2 2 b__law_cell
def b_law : S → Fl :=
    (sSeq (sFor (iRng gRng1 (cCons (cC (.int 3)) cNil)) (gN 1)
    (sIf (cNot (cB (cCall f__law_right (cCons (cSh (cCall f__law_box (cCons (cFz (cCall f__law_cell (cCons (cVar 0) (cCons (cVar 1) cNil)) [])) cNil) [])) cNil) [])))
    (sRet (cD (cC (.bl false))))
    sPass))
    (sRet (cD (cC (.bl true)))))
def f_law : Fn := mkFn 1 2 b_law
end Law
end

section
set_option Elab.async false
set_option linter.all false
set_option maxRecDepth 100000
set_option maxHeartbeats 400000
namespace Law
open PySem PySem.Spec PyProof.Rows L2 PL
/-- the box at n, its count at most B -/
def Bx (m : Store) (n : Nat) (B : Int) : Prop := ∃ a b c d, m[n]? = some (.lst [.int a, .bl b, .int c, .int d]) ∧ 0 ≤ a ∧ 0 ≤ c ∧ c < 2147483648 ∧ 0 ≤ d ∧ d ≤ B
theorem take_spec {m : Store} {n : Nat} {B many : Int} (h : Bx m n B) (hB : B ≤ 1073741824) (h0 : 0 < many) (h1 : many < 1073741824) :
    FnP f__law_take [.ref n, .int many] m fun w t => ∃ i, w = .d (.int i) ∧ 0 ≤ i ∧ i < many ∧ Bx t n (B + 1) := by
  obtain ⟨a, b, c, d, hm, ha, hc, hc2, hd, hdB⟩ := h
  refine FnP.mk rfl ?_
  have hn := (List.getElem?_eq_some_iff.mp hm).1
  have e1 : CMulB 15485863 (d + 1) = true := cmul_small (by omega)
  have e2 : CPowB (c + 15485863 * (d + 1) + 179424673) 5 = true := by unfold CPowB; simp; omega
  have e3 : ∀ z : Int, CModB z 2147483647 = true := fun z => rfl
  have e4 : ∀ z : Int, CMulB z 48271 = true := fun z => cmul_small' (by decide)
  have e5 : CMulB 104729 (d + 1) = true := cmul_small (by omega)
  have e6 : CPowB ((c + 15485863 * (d + 1) + 179424673) ^ 5 % 2147483647 * 48271 + 104729 * (d + 1)) 3 = true := by
    have h1 := Int.emod_nonneg ((c + 15485863 * (d + 1) + 179424673) ^ 5) (show (2147483647 : Int) ≠ 0 by decide)
    have h2 := Int.emod_lt_of_pos ((c + 15485863 * (d + 1) + 179424673) ^ 5) (show (0 : Int) < 2147483647 by decide)
    unfold CPowB; simp; omega
  have e7 : ∀ z : Int, CModB z 2147483587 = true := fun z => rfl
  have e8 : ∀ z : Int, CDivB z 64 = true := fun z => rfl
  have e9 : ∀ z : Int, CModB z many = true := fun z => by unfold CModB; simp [h0]
  have e10 : ∀ z : Int, CDivB z many = true := fun z => by unfold CDivB; simp [h0, h1]
  have fin : ∀ z : Int, ∃ i, Wv.d (.int (z % many)) = Wv.d (.int i) ∧ 0 ≤ i ∧ i < many := fun z => ⟨_, rfl, Int.emod_nonneg _ (by omega), Int.emod_lt_of_pos _ h0⟩
  simp [b__law_take, hm, ixN, get_set hm, e1, e2, e3, e4, e5, e6, e7, e8, e9, e10]
  have key : ∀ (a' : Int) (d' : Int), 0 ≤ a' → 0 ≤ d' → d' ≤ B + 1 → Bx (m.set n (.lst [.int a', .bl b, .int c, .int d'])) n (B + 1) := fun a' d' q1 q2 q3 => ⟨a', b, c, d', get_set hm, q1, hc, hc2, q2, q3⟩
  have hmod : ∀ z : Int, 0 ≤ z % many ∧ z % many < many := fun z => ⟨Int.emod_nonneg _ (by omega), Int.emod_lt_of_pos _ h0⟩
  cases b with
  | false => simpa using ⟨(hmod _).1, (hmod _).2, key a (d + 1) ha (by omega) (by omega)⟩
  | true =>
    simp
    split
    · exact ⟨(hmod _).1, (hmod _).2, key _ d (Int.ediv_nonneg ha (by omega)) hd (by omega)⟩
    · exact ⟨(hmod _).1, (hmod _).2, key a (d + 1) ha (by omega) (by omega)⟩
def abc : Wd := [97, 98, 99, 100, 101, 102]
@[simp] theorem c_abc : Str.ofString "abcdef" = st abc := by rfl
@[simp] theorem abc_len : abc.length = 6 := rfl
def okW (n : Nat) (w : Wd) : Prop := ∀ c ∈ w, 97 ≤ c ∧ c < 97 + n
theorem abc_mem {c : Nat} (h : 97 ≤ c ∧ c < 103) : c ∈ abc := by
  have : c = 97 ∨ c = 98 ∨ c = 99 ∨ c = 100 ∨ c = 101 ∨ c = 102 := by omega
  unfold abc; simp; omega
theorem abc_take {n c : Nat} (hn : n ≤ 6) (h : 97 ≤ c ∧ c < 97 + n) : c ∈ abc.take n := by
  have : c = 97 ∨ c = 98 ∨ c = 99 ∨ c = 100 ∨ c = 101 ∨ c = 102 := by omega
  have : n = 0 ∨ n = 1 ∨ n = 2 ∨ n = 3 ∨ n = 4 ∨ n = 5 ∨ n = 6 := by omega
  rcases this with rfl | rfl | rfl | rfl | rfl | rfl | rfl <;> simp [abc] <;> omega
theorem abc_idx {c : Nat} (h : 97 ≤ c ∧ c < 103) : abc.idxOf c = c - 97 := by
  have : c = 97 ∨ c = 98 ∨ c = 99 ∨ c = 100 ∨ c = 101 ∨ c = 102 := by omega
  rcases this with rfl | rfl | rfl | rfl | rfl | rfl <;> rfl
/-- the tag system's next word -/
def nxt (t : Nat) (R : List Wd) (w : Wd) : Option Wd := if w.length < t then none else match w with
  | [] => none
  | c :: _ => some (w.drop t ++ R.getD (c - 97) [])
def oD : Option Wd → D
  | none => .non
  | some w => sD w
def tagsD (t : Nat) (R : List Wd) : D := .ins "Tags" ["take", "rules"] [.int t, .tup (R.map sD)]
/-- rules: from 1 to 6, of at most 8 letters -/
structure okR (R : List Wd) : Prop where
  l : 1 ≤ R.length
  u : R.length ≤ 6
  w : ∀ r ∈ R, okW R.length r
  z : ∀ r ∈ R, r.length ≤ 8
abbrev pure' (f : Fn) (args : List D) (v : D) : Prop := ∀ m : Store, FnP f args m fun w t => w = .d v ∧ t = m
theorem callV {f : Fn} {ds : List D} {v : D} {env : PEnv} {m : Store} {Q : Wv → S → Prop} (h : pure' f ds v) (i : Q (.d v) ⟨env, m⟩) : CallP f ds ⟨env, m⟩ Q := by
  refine ⟨?_⟩
  obtain ⟨w, t, e, h1, h2⟩ := h m
  subst h1 h2
  unfold callR
  rw [e]
  exact i
theorem is_word_of_spec {w l : Wd} {most : Int} (h1 : (w.length : Int) ≤ most) (h2 : ∀ c ∈ w, c ∈ l) (h3 : w.length ≤ sizeLine) : pure' f_is_word_of [sD w, sD l, .int most] (.bl true) := fun m => by
  refine FnP.mk rfl ?_
  simp [b_is_word_of, h1, h3]
  refine compC ?_
  simp
  refine ⟨h3, (compM (E := [Sl.d (sD w), Sl.d (sD l), Sl.d (D.int most), Sl.no]) (m := m) (h := fun _ => .bl true) (by rfl) ?_).mono ?_⟩
  · intro d hd
    obtain ⟨c, hc, rfl⟩ := List.mem_map.mp hd
    refine ⟨_, rfl, ?_⟩
    simp [h2 c hc]
    rfl
  · rintro ys s ⟨rfl, rfl⟩
    simp [backS]
theorem is_integer_spec {i : Int} : pure' f_is_integer [.int i] (.bl true) := fun m => by
  refine FnP.mk rfl ?_
  simp [b_is_integer]
theorem is_between_spec {i a b : Int} (h : a ≤ i) (h' : i ≤ b) : pure' f_is_between [.int i, .int a, .int b] (.bl true) := fun m => by
  refine FnP.mk rfl ?_
  simp [b_is_between]
  refine callP (is_integer_spec m) ?_
  rintro w t ⟨rfl, rfl⟩
  simp [h, h']
theorem check_steps_spec {i b : Int} (h : 0 ≤ i) (h' : i ≤ b) : pure' f_check_steps [.int i, .int b] .non := fun m => by
  refine FnP.mk rfl ?_
  simp [b_check_steps]
  refine callP (is_between_spec h h' m) ?_
  rintro w t ⟨rfl, rfl⟩
  simp
theorem cut_take {n : Nat} {w : Wd} : cutS (st w) none (some (n : Int)) = st (w.take n) := by
  rw [cutS_st, cut_upto (by omega)]; simp
theorem are_rules_spec {R : List Wd} (ok : okR R) : pure' f_are_rules [.tup (R.map sD)] (.bl true) := fun m => by
  have h1 := ok.l
  have h2 := ok.u
  have hz := line
  refine FnP.mk rfl ?_
  simp [b_are_rules, show (6 : Nat) ≤ sizeLine by omega, show (1 : Int) ≤ R.length by omega, show (R.length : Int) ≤ 6 by omega]
  refine compC ?_
  simp
  refine ⟨by omega, (compM (E := [Sl.d (.tup (R.map sD)), .no]) (m := m) (h := fun _ => .bl true) (by rfl) ?_).mono ?_⟩
  · intro d hd
    obtain ⟨r, hr, rfl⟩ := List.mem_map.mp hd
    refine ⟨_, rfl, ?_⟩
    simp [-cutS_st, show (6 : Nat) ≤ sizeLine by omega]
    rw [cut_take]
    refine callP (is_word_of_spec (by have := ok.z r hr; omega) (fun c hc => abc_take h2 (ok.w r hr c hc)) (by have := ok.z r hr; omega) m) ?_
    rintro w t ⟨rfl, rfl⟩
    simp
    rfl
  · rintro ys s ⟨rfl, rfl⟩
    simp [backS]
@[simp] theorem fld_take {a b : D} : gFld ["Tags"] "take" (.ins "Tags" ["take", "rules"] [a, b]) = some (.d a) := by rfl
@[simp] theorem fld_rules {a b : D} : gFld ["Tags"] "rules" (.ins "Tags" ["take", "rules"] [a, b]) = some (.d b) := by rfl
theorem nrs_sD : ∀ R : List Wd, nrs (R.map sD) = true
  | [] => rfl
  | r :: R => by
    rw [List.map_cons]
    show (D.nr (.str (st r)) && nrs (R.map sD)) = true
    rw [nrs_sD R]; rfl
theorem init_spec {t : Nat} {R : List Wd} (ok : okR R) (ht : 1 ≤ t ∧ t ≤ 4) : FnP f_Tags_init [.ref 0, .int t, .tup (R.map sD)] [.ins "Tags" []] fun w s => w = .d .non ∧ s = [.ins "Tags" [("take", .int t), ("rules", .tup (R.map sD))]] := by
  refine FnP.mk rfl ?_
  simp [b_Tags_init]
  refine callP (is_between_spec (by omega) (by omega) _) ?_
  rintro w s ⟨rfl, rfl⟩
  simp
  refine callP (are_rules_spec ok _) ?_
  rintro w s ⟨rfl, rfl⟩
  simp
  exact ⟨show 1 < 1000 by decide, rfl⟩
/-- Tags(t, R), both ways -/
theorem make_spec {t : Nat} {R : List Wd} (ok : okR R) (ht : 1 ≤ t ∧ t ≤ 4) {s : S} {Q : Wv → S → Prop} (h : Q (.nw (.ins "Tags" [("take", .int t), ("rules", .tup (R.map sD))])) s) : MakeP "Tags" f_Tags_init [.int t, .tup (R.map sD)] s Q := by
  refine makeP ?_ ((init_spec ok ht).mono ?_)
  · show (D.nr (.int t) && (nrs (R.map sD) && true)) = true
    rw [nrs_sD]; rfl
  · rintro w u ⟨rfl, rfl⟩
    refine ⟨rfl, _, rfl, ?_, h⟩
    show nrs [.int t, .tup (R.map sD)] = true
    show (D.nr (.int t) && (nrs (R.map sD) && true)) = true
    rw [nrs_sD]; rfl
theorem check_word_spec {t : Nat} {R : List Wd} {w : Wd} (ok : okR R) (hw : okW R.length w) (hl : w.length ≤ 60) : pure' f_check_word [tagsD t R, sD w] .non := fun m => by
  have h2 := ok.u
  have hz := line
  refine FnP.mk rfl ?_
  simp [b_check_word, tagsD, -cutS_st, show (6 : Nat) ≤ sizeLine by omega]
  rw [cut_take]
  refine callP (is_word_of_spec (by omega) (fun c hc => abc_take h2 (hw c hc)) (by omega) m) ?_
  rintro w t ⟨rfl, rfl⟩
  simp
theorem okW.head {n c : Nat} {w : Wd} (h : okW n (c :: w)) : 97 ≤ c ∧ c < 97 + n := h c (List.mem_cons_self ..)
theorem okR.at_ {R : List Wd} {c : Nat} (h : 97 ≤ c ∧ c < 97 + R.length) : atI (R.map sD) ((c - 97 : Nat) : Int) = some (sD (R.getD (c - 97) [])) := by
  rw [atI_k, List.getElem?_map]
  have : c - 97 < R.length := by omega
  rw [List.getElem?_eq_getElem this, List.getD_eq_getElem?_getD, List.getElem?_eq_getElem this]
  rfl
theorem okR.getD {R : List Wd} (ok : okR R) (i : Nat) : (R.getD i []).length ≤ 8 ∧ okW R.length (R.getD i []) := by
  rw [List.getD_eq_getElem?_getD]
  cases h : R[i]? with
  | none => exact ⟨by simp, fun c hc => by simp at hc⟩
  | some r => exact ⟨ok.z r (List.mem_of_getElem? h), ok.w r (List.mem_of_getElem? h)⟩
/-- the next word, the program's and the law's -/
theorem stepped_spec {t : Nat} {R : List Wd} {w : Wd} (ok : okR R) (ht : 1 ≤ t) (hw : okW R.length w) (hl : w.length ≤ 1000000) : pure' f_stepped [tagsD t R, sD w] (oD (nxt t R w)) := fun m => by
  have h2 := ok.u
  have hz := line
  refine FnP.mk rfl ?_
  simp [b_stepped, tagsD, -cutS_st, show w.length ≤ sizeLine by omega]
  unfold nxt
  by_cases c : w.length < t
  · simp [c, oD]
  · cases w with
    | nil => simp at c; omega
    | cons a w =>
      have ha := hw.head
      have hr := ok.getD (a - 97)
      simp only [List.length_cons] at c hl
      have e : cutS (st (a :: w)) (some (t : Int)) none = st ((a :: w).drop t) := by rw [cutS_st, cut_from (by omega)]; simp
      simp [c, -cutS_st, e, st_one, show w.length + 1 ≤ sizeLine by omega, abc_mem (show 97 ≤ a ∧ a < 103 by omega), abc_idx (show 97 ≤ a ∧ a < 103 by omega), okR.at_ ha]
      have hr1 := hr.1
      rw [List.getD_eq_getElem?_getD] at hr1
      exact ⟨by omega, rfl⟩
theorem next_tag_spec {t : Nat} {R : List Wd} {w : Wd} (ok : okR R) (ht : 1 ≤ t) (hw : okW R.length w) (hl : w.length ≤ 60) : pure' f_next_tag [tagsD t R, sD w] (oD (nxt t R w)) := fun m => by
  refine FnP.mk rfl ?_
  simp [b_next_tag]
  refine callP (check_word_spec ok hw hl m) ?_
  rintro w t ⟨rfl, rfl⟩
  simp
  refine callP (stepped_spec ok ht hw (by omega) _) ?_
  rintro w t ⟨rfl, rfl⟩
  simp
theorem law_next_tag_spec {t : Nat} {R : List Wd} {w : Wd} (ok : okR R) (ht : 1 ≤ t) (hw : okW R.length w) (hl : w.length ≤ 1000000) : pure' f__law_next_tag [.int t, .tup (R.map sD), sD w] (oD (nxt t R w)) := fun m => by
  have h2 := ok.u
  have hz := line
  refine FnP.mk rfl ?_
  simp [b__law_next_tag, -cutS_st, show w.length ≤ sizeLine by omega]
  unfold nxt
  by_cases c : w.length < t
  · simp [c, oD, show ¬ t ≤ w.length by omega]
  · cases w with
    | nil => simp at c; omega
    | cons a w =>
      have ha := hw.head
      have hr := ok.getD (a - 97)
      simp only [List.length_cons] at c hl
      have e : cutS (st (a :: w)) (some (t : Int)) none = st ((a :: w).drop t) := by rw [cutS_st, cut_from (by omega)]; simp
      have hr1 := hr.1
      rw [List.getD_eq_getElem?_getD] at hr1
      simp [c, show t ≤ w.length + 1 by omega, show (t : Int) ≤ w.length + 1 by omega, -cutS_st, e, st_one, show w.length + 1 ≤ sizeLine by omega, abc_mem (show 97 ≤ a ∧ a < 103 by omega), abc_idx (show 97 ≤ a ∧ a < 103 by omega), okR.at_ ha]
      exact ⟨by omega, rfl⟩
/-! ### the way of a word -/
def lastW (f : List Wd) : Wd := f.getLastD []
inductive How where
  | h | a | r
deriving DecidableEq
def hS : How → Str
  | .h => "halted"
  | .a => "again"
  | .r => "running"
@[simp] theorem hS_h : hS .h = "halted" := rfl
@[simp] theorem hS_a : hS .a = "again" := rfl
@[simp] theorem hS_r : hS .r = "running" := rfl
def wayGo (t : Nat) (R : List Wd) : Nat → List Wd → List Wd × How
  | 0, f => (f, if nxt t R (lastW f) = none then .h else .r)
  | n + 1, f => match nxt t R (lastW f) with
    | none => (f, .h)
    | some a => if a ∈ f then (f ++ [a], .a) else wayGo t R n (f ++ [a])
theorem nxt_ok {t : Nat} {R : List Wd} {w a : Wd} (ok : okR R) (hw : okW R.length w) (e : nxt t R w = some a) : okW R.length a ∧ a.length ≤ w.length + 8 := by
  unfold nxt at e
  split at e
  · cases e
  · cases w with
    | nil => cases e
    | cons c w =>
      cases e
      have hr := ok.getD (c - 97)
      refine ⟨fun x hx => ?_, ?_⟩
      · rcases List.mem_append.mp hx with h | h
        · exact hw x (List.mem_of_mem_drop h)
        · exact hr.2 x h
      · rw [List.length_append, List.length_drop]
        have := hr.1
        omega
/-- all words of a way are fine -/
structure okF (R : List Wd) (b : Nat) (f : List Wd) : Prop where
  ne : f ≠ []
  w : ∀ u ∈ f, okW R.length u ∧ u.length ≤ b + 8 * f.length
  l : f.length ≤ 1000
theorem okF.last {R : List Wd} {b : Nat} {f : List Wd} (h : okF R b f) : okW R.length (lastW f) ∧ (lastW f).length ≤ b + 8 * f.length := by
  have : lastW f ∈ f := by
    unfold lastW
    rw [List.getLastD_eq_getLast?, List.getLast?_eq_some_getLast h.ne]
    exact List.getLast_mem h.ne
  exact h.w _ this
theorem okF.snoc {t b : Nat} {R : List Wd} {f : List Wd} {a : Wd} (ok : okR R) (h : okF R b f) (hl : f.length < 1000) (e : nxt t R (lastW f) = some a) : okF R b (f ++ [a]) := by
  have hL := h.last
  have hn := nxt_ok ok hL.1 e
  refine ⟨by simp, fun u hu => ?_, by simp; omega⟩
  rw [List.length_append, List.length_singleton]
  rcases List.mem_append.mp hu with hu | hu
  · have := h.w u hu
    exact ⟨this.1, by omega⟩
  · simp at hu
    subst hu
    exact ⟨hn.1, by omega⟩
theorem at_last {f : List Wd} (h : f ≠ []) : atI (f.map sD) (-1) = some (sD (lastW f)) := by
  unfold lastW
  rw [atI_neg1, List.getLastD_eq_getLast?, List.getLast?_eq_getElem?, List.length_map, List.getElem?_map]
  rw [List.getElem?_eq_getElem (show f.length - 1 < f.length by have := List.length_pos_iff.mpr h; omega)]
  rfl
theorem in_lst {f : List Wd} {a : Wd} {n : Bool} : gIn n (sD a) (.lst (f.map sD)) = some (.d (.bl (if n then !decide (a ∈ f) else decide (a ∈ f)))) := by
  have e : inS (sD a) (.lst (f.map sD)) = some (decide (a ∈ f)) := by
    show (if flatD (sD a) = true ∧ (f.map sD).all flatD = true then some ((f.map sD).any fun y => eqF y (sD a)) else none) = _
    rw [if_pos ⟨rfl, by rw [List.all_map]; exact List.all_eq_true.mpr fun _ _ => rfl⟩]
    congr 1
    rw [Bool.eq_iff_iff, List.any_eq_true, decide_eq_true_iff]
    constructor
    · rintro ⟨y, hy, e⟩
      obtain ⟨u, hu, rfl⟩ := List.mem_map.mp hy
      have : (st u == st a) = true := e
      rw [beq_iff_eq, st_eq] at this
      exact this ▸ hu
    · intro h
      exact ⟨sD a, List.mem_map.mpr ⟨a, h, rfl⟩, by show (st a == st a) = true; exact beq_self_eq_true _⟩
  have h2 : gIn n (sD a) (.lst (f.map sD)) = gInS n (sD a) (.lst (f.map sD)) := rfl
  rw [h2]
  unfold gInS
  rw [e]
  rfl
theorem cut_dl {f : List Wd} : PL.cutD (f.map sD) none (some (-1)) = f.dropLast.map sD := by
  unfold PL.cutD
  rw [cut_last, List.map_dropLast]
theorem way_spec {t N : Nat} {R : List Wd} {w : Wd} (ok : okR R) (ht : 1 ≤ t) (hw : okW R.length w) (hl : w.length ≤ 100) (hN : N ≤ 500) :
    pure' f__law_way [.int t, .tup (R.map sD), sD w, .int N] (.tup [.lst ((wayGo t R N [w]).1.map sD), (.str (hS (wayGo t R N [w]).2))]) := fun m => by
  have hz := line
  obtain ⟨res, hres⟩ : ∃ r, r = wayGo t R N [w] := ⟨_, rfl⟩
  rw [← hres]
  refine FnP.mk rfl ?_
  simp [b__law_way, show (1 : Nat) ≤ sizeLine by omega, show (-4611686018427387904 : Int) ≤ N by omega, show (N : Int) < 4611686018427387904 by omega]
  refine forP (fun ds s => ∃ f x5 x6, s = ⟨[.d (.int t), .d (.tup (R.map sD)), .d (sD w), .d (.int N), .own (.lst (f.map sD)), x5, x6], m⟩ ∧ okF R 100 f ∧ f.length + ds.length = N + 1 ∧ wayGo t R ds.length f = res) ?_ ?_ _ _ ?_
  · rintro d ds _ ⟨f, x5, x6, rfl, hf, hl, hg⟩
    have hL := hf.last
    have hfl := hf.l
    simp only [List.length_cons] at hl hg
    refine ⟨_, rfl, ?_⟩
    simp [at_last hf.ne]
    refine callP (law_next_tag_spec ok ht hL.1 (by omega) m) ?_
    rintro v u ⟨rfl, rfl⟩
    unfold wayGo at hg
    cases e : nxt t R (lastW f) with
    | none =>
      rw [e] at hg
      simp [oD, ← hg, show (2 : Nat) ≤ sizeLine by omega]
    | some a =>
      rw [e] at hg
      have hf2 := hf.snoc ok (by omega) e
      have e2 : f.map sD ++ [sD a] = (f ++ [a]).map sD := by simp
      simp [oD, show f.length < sizeLine by omega, show (2 : Nat) ≤ sizeLine by omega]
      rw [e2, cut_dl, List.dropLast_concat, in_lst]
      simp only [RP_lift_some, bl_bl, decide_eq_true_eq, Bool.false_eq_true, if_false]
      by_cases c : a ∈ f
      · simp [c] at hg ⊢
        simp [← hg, show (2 : Nat) ≤ sizeLine by omega]
      · simp [c] at hg ⊢
        exact ⟨f ++ [a], e2, hf2, by simp; omega, hg⟩
  · rintro _ ⟨f, x5, x6, rfl, hf, hl, hg⟩
    have hL := hf.last
    have hfl := hf.l
    simp [at_last hf.ne]
    refine callP (law_next_tag_spec ok ht hL.1 (by omega) m) ?_
    rintro v u ⟨rfl, rfl⟩
    simp only [List.length_nil] at hg
    unfold wayGo at hg
    cases e : nxt t R (lastW f) with
    | none => simp [oD, ← hg, e, show (2 : Nat) ≤ sizeLine by omega]
    | some a => simp [oD, ← hg, e, show (2 : Nat) ≤ sizeLine by omega]
  · exact ⟨[w], .no, .no, rfl, ⟨by simp, by simp; exact ⟨hw, by omega⟩, by simp⟩, by simp; omega, by simp [hres]⟩
end Law
end

section
set_option Elab.async false
set_option linter.all false
set_option maxRecDepth 100000
set_option maxHeartbeats 400000
namespace Law
open PySem PySem.Spec PyProof.Rows L2 PL
/-- the words seen, each with its place -/
def kvF (n : Nat) (f : List Wd) : List (Key × D) := (f.zipIdx n).map fun p => (.inr (st p.1), .int (p.2 : Nat))
theorem kvF_snoc {f : List Wd} {a : Wd} : kvF 0 (f ++ [a]) = kvF 0 f ++ [(.inr (st a), .int (f.length : Nat))] := by
  unfold kvF
  rw [List.zipIdx_append]
  simp
theorem kvF_find {a : Wd} : ∀ {f : List Wd} {n : Nat}, ((kvF n f).find? fun kv => decide (kv.1 = .inr (st a))).map (·.2) = if a ∈ f then some (.int ((n + f.idxOf a : Nat) : Int)) else none
  | [], n => by simp [kvF]
  | u :: f, n => by
    have ih := kvF_find (a := a) (f := f) (n := n + 1)
    have e : kvF n (u :: f) = (.inr (st u), .int (n : Nat)) :: kvF (n + 1) f := by
      unfold kvF; rw [List.zipIdx_cons, List.map_cons]
    rw [e, List.find?_cons]
    by_cases c : u = a
    · subst c
      simp
    · have c2 : decide (((.inr (st u) : Key), (D.int (n : Nat))).1 = .inr (st a)) = false := by
        rw [decide_eq_false_iff_not]
        intro h
        injection h with h
        exact c (st_inj h)
      rw [c2]
      dsimp only
      rw [ih]
      have c3 : a ≠ u := fun h => c h.symm
      by_cases d : a ∈ f
      · rw [if_pos d, if_pos (List.mem_cons_of_mem _ d), List.idxOf_cons, beq_false_of_ne c]
        simp only [cond_false]
        congr 2
        omega
      · rw [if_neg d, if_neg (by simp [c3, d])]
@[simp] theorem kvF_findK {f : List Wd} {a : Wd} : findK (.inr (st a) : Key) ((kvF 0 f).map (·.1)) ((kvF 0 f).map (·.2)) = if a ∈ f then some (.int (f.idxOf a : Nat)) else none := by
  unfold findK
  rw [zip_unzip, kvF_find]
  simp
theorem kvF_put {f : List Wd} {a : Wd} (h : a ∉ f) : putKV (kvF 0 f) (.inr (st a)) (.int (f.length : Nat)) = kvF 0 (f ++ [a]) := by
  unfold putKV
  rw [if_neg, kvF_snoc]
  rw [List.any_eq_true]
  rintro ⟨p, hp, e⟩
  have h2 := kvF_find (a := a) (f := f) (n := 0)
  rw [if_neg h] at h2
  have h3 : ((kvF 0 f).find? fun kv => decide (kv.1 = .inr (st a))) ≠ none := by
    intro h4
    rw [List.find?_eq_none] at h4
    exact h4 p hp e
  cases h5 : (kvF 0 f).find? fun kv => decide (kv.1 = .inr (st a)) with
  | none => exact h3 h5
  | some q => rw [h5] at h2; cases h2
theorem kvF_len {f : List Wd} : (kvF 0 f).length = f.length := by simp [kvF]
def ranD (res : List Wd × How) (N : Nat) : D := match res.2 with
  | .h => .tup [.str "halted", .int ((res.1.length - 1 : Nat) : Int), sD (lastW res.1), .non]
  | .a => .tup [.str "again", .int ((res.1.length - 1 : Nat) : Int), sD (lastW res.1), .int ((res.1.idxOf (lastW res.1) : Nat) : Int)]
  | .r => .tup [.str "running", .int N, sD (lastW res.1), .non]
@[simp] theorem lastW_snoc {f : List Wd} {a : Wd} : lastW (f ++ [a]) = a := by unfold lastW; simp
theorem ran_spec {t N : Nat} {R : List Wd} {w : Wd} (ok : okR R) (ht : 1 ≤ t) (hw : okW R.length w) (hl : w.length ≤ 100) (hN : N ≤ 500) :
    pure' f_ran [tagsD t R, sD w, .int N] (ranD (wayGo t R N [w]) N) := fun m => by
  have hz := line
  obtain ⟨res, hres⟩ : ∃ r, r = wayGo t R N [w] := ⟨_, rfl⟩
  rw [← hres]
  refine FnP.mk rfl ?_
  simp [b_ran, dispK, keysOf, show (-4611686018427387904 : Int) ≤ N + 1 by omega, show (N : Int) + 1 < 4611686018427387904 by omega]
  refine forP (fun ds s => ∃ j f x4 x5, ds = (List.range' j (N + 1 - j)).map (fun k : Nat => D.int (k : Int)) ∧ j ≤ N ∧ s = ⟨[.d (tagsD t R), .d (sD (lastW f)), .d (.int N), .own (.dK (kvF 0 f)), x4, x5], m⟩ ∧ okF R 100 f ∧ f.length = j + 1 ∧ wayGo t R (N - j) f = res) ?_ ?_ _ _ ?_
  · rintro d ds _ ⟨j, f, x4, x5, hds, hj, rfl, hf, hfl, hg⟩
    have hL := hf.last
    rw [show N + 1 - j = (N - j) + 1 by omega, List.range'_succ, List.map_cons] at hds
    injection hds with hd hds
    subst hd
    refine ⟨_, rfl, ?_⟩
    simp
    refine callP (stepped_spec ok ht hL.1 (by omega) m) ?_
    rintro v u ⟨rfl, rfl⟩
    cases e : nxt t R (lastW f) with
    | none =>
      have : res = (f, .h) := by
        rw [← hg]
        cases h : N - j with
        | zero => unfold wayGo; rw [e]; simp
        | succ k => unfold wayGo; rw [e]
      subst this
      simp [oD, ranD, hfl, show (4 : Nat) ≤ sizeLine by omega]
    | some a =>
      have hf2 := hf.snoc ok (by omega) e
      simp [oD]
      by_cases c : j = N
      · subst c
        have : res = (f, .r) := by
          rw [← hg, Nat.sub_self]
          unfold wayGo
          rw [e]; simp
        subst this
        simp [ranD, show (4 : Nat) ≤ sizeLine by omega]
      · have c' : ¬ ((j : Int) = N) := by omega
        rw [show N - j = (N - (j + 1)) + 1 by omega] at hg
        unfold wayGo at hg
        rw [e] at hg
        dsimp only at hg
        simp [c, c']
        by_cases d : a ∈ f
        · rw [if_pos d] at hg
          subst hg
          simp [d, ranD, hfl, show (4 : Nat) ≤ sizeLine by omega, List.idxOf_append]
        · rw [if_neg d] at hg
          simp [d, kvF_len, show f.length < sizeLine by omega]
          have e3 := kvF_put d
          rw [hfl] at e3
          refine ⟨j + 1, ?_, by omega, f ++ [a], ⟨by simp, ?_⟩, hf2, by simp [hfl], hg⟩
          · rw [hds]
            congr 2
            omega
          · have e4 : ((j : Int) + 1) = ((j + 1 : Nat) : Int) := by omega
            rw [e4, e3]
  · rintro _ ⟨j, f, x4, x5, hds, hj, rfl, hf, hfl, hg⟩
    rw [show N + 1 - j = (N - j) + 1 by omega, List.range'_succ, List.map_cons] at hds
    cases hds
  · refine ⟨0, [w], .no, .no, ?_, by omega, ?_, ⟨by simp, by simp; exact ⟨hw, by omega⟩, by simp⟩, rfl, hres.symm⟩
    · simp [PL.upTo, List.range_eq_range', show ((N : Int) + 1).toNat = N + 1 by omega]
    · rfl
theorem check_run_spec {t : Nat} {N : Int} {R : List Wd} {w : Wd} (ok : okR R) (hw : okW R.length w) (hl : w.length ≤ 60) (h0 : 0 ≤ N) (hN : N ≤ 500) : pure' f_check_run [tagsD t R, sD w, .int N] .non := fun m => by
  refine FnP.mk rfl ?_
  simp [b_check_run]
  refine callP (check_word_spec ok hw hl m) ?_
  rintro v u ⟨rfl, rfl⟩
  simp
  refine callP (check_steps_spec h0 hN _) ?_
  rintro v u ⟨rfl, rfl⟩
  simp
def runD (res : List Wd × How) (N : Nat) : D := .tup [.str (hS res.2), .int (match res.2 with
  | .r => (N : Int)
  | _ => ((res.1.length - 1 : Nat) : Int)), sD (lastW res.1)]
def fateD (res : List Wd × How) : D := match res.2 with
  | .h => .tup [.str "halts", .int ((res.1.length - 1 : Nat) : Int)]
  | .a => .tup [.str "again", .int ((res.1.idxOf (lastW res.1) : Nat) : Int), .int ((res.1.length - 1 : Nat) : Int)]
  | .r => .tup [.str "open"]
theorem tag_run_spec {t N : Nat} {R : List Wd} {w : Wd} (ok : okR R) (ht : 1 ≤ t) (hw : okW R.length w) (hl : w.length ≤ 60) (hN : N ≤ 500) : pure' f_tag_run [tagsD t R, sD w, .int N] (runD (wayGo t R N [w]) N) := fun m => by
  have hz := line
  have h0 := ran_spec ok ht hw (show w.length ≤ 100 by omega) hN
  revert h0
  generalize wayGo t R N [w] = res
  intro h0
  refine FnP.mk rfl ?_
  simp [b_tag_run]
  refine callV (check_run_spec (N := (N : Int)) ok hw hl (by omega) (by omega)) ?_
  simp
  refine callV h0 ?_
  unfold ranD runD
  cases e : res.2 <;> simp [show (3 : Nat) ≤ sizeLine by omega]
theorem tag_fate_spec {t N : Nat} {R : List Wd} {w : Wd} (ok : okR R) (ht : 1 ≤ t) (hw : okW R.length w) (hl : w.length ≤ 60) (hN : N ≤ 500) : pure' f_tag_fate [tagsD t R, sD w, .int N] (fateD (wayGo t R N [w])) := fun m => by
  have hz := line
  have h0 := ran_spec ok ht hw (show w.length ≤ 100 by omega) hN
  revert h0
  generalize wayGo t R N [w] = res
  intro h0
  refine FnP.mk rfl ?_
  simp [b_tag_fate]
  refine callV (check_run_spec (N := (N : Int)) ok hw hl (by omega) (by omega)) ?_
  simp
  refine callV h0 ?_
  unfold ranD fateD
  cases e : res.2 <;> simp [show (3 : Nat) ≤ sizeLine by omega, show (2 : Nat) ≤ sizeLine by omega, show (1 : Nat) ≤ sizeLine by omega]
end Law
end

section
set_option Elab.async false
set_option linter.all false
set_option maxRecDepth 100000
set_option maxHeartbeats 400000
namespace Law
open PySem PySem.Spec PyProof.Rows L2 PL
/-! ### same(d, d) -/
inductive Gd : Nat → D → Prop where
  | non {n} : Gd n .non
  | bl {n} (b : Bool) : Gd n (.bl b)
  | int {n} (i : Int) : Gd n (.int i)
  | str {n} (w : Wd) (h : w.length ≤ 1000000) : Gd n (sD w)
  | tup {n} {xs : List D} (h : ∀ x ∈ xs, Gd n x) (hl : xs.length ≤ 1000000) : Gd (n + 1) (.tup xs)
  | lst {n} {xs : List D} (h : ∀ x ∈ xs, Gd n x) (hl : xs.length ≤ 1000000) : Gd (n + 1) (.lst xs)
theorem Gd.up {n : Nat} {d : D} (h : Gd n d) : Gd (n + 1) d := by
  induction h with
  | non => exact .non
  | bl b => exact .bl b
  | int i => exact .int i
  | str w h => exact .str w h
  | tup h hl ih => exact .tup ih hl
  | lst h hl ih => exact .lst ih hl
theorem Gd.upn {n : Nat} {d : D} (h : Gd n d) : ∀ k, Gd (n + k) d
  | 0 => h
  | k + 1 => (h.upn k).up
theorem mem_upTo {n : Nat} {d : D} (h : d ∈ PL.upTo 0 n) : ∃ k : Nat, k < n ∧ d = .int k := by
  unfold PL.upTo at h
  obtain ⟨k, hk, rfl⟩ := List.mem_map.mp h
  exact ⟨k, List.mem_range.mp hk, by simp⟩
@[simp] theorem gEq_nil : gEq (.lst []) (.lst []) = some (.d (.bl true)) := by rfl
theorem filter_no {l : List D} : l.filter (fun _ => false) = [] := by simp
theorem same_spec : ∀ {n : Nat} {d : D}, Gd n d → pure' (f__law_same (n + 1)) [d, d] (.bl true) := by
  intro n d h
  induction h with
  | @non n =>
    intro m
    refine FnP.mk rfl ?_
    simp [b__law_same]
  | @bl n b =>
    intro m
    refine FnP.mk rfl ?_
    cases b <;> simp [b__law_same]
  | @int n i =>
    intro m
    refine FnP.mk rfl ?_
    simp [b__law_same, CYes]
  | @str n w hw =>
    intro m
    have hz := line
    refine FnP.mk rfl ?_
    simp [b__law_same, show w.length ≤ sizeLine by omega]
    refine compC ?_
    simp [show w.length ≤ sizeLine by omega, show (-4611686018427387904 : Int) ≤ w.length by omega, show (w.length : Int) < 4611686018427387904 by omega]
    refine (compF (E := [Sl.d (sD w), Sl.d (sD w), .no]) (m := m) (p := fun _ => false) (h := fun d => d) (by rfl) ?_).mono ?_
    · intro d hd
      obtain ⟨k, hk, rfl⟩ := mem_upTo hd
      refine ⟨_, rfl, ?_⟩
      have e : cutS (st w) (some (k : Int)) (some ((k : Int) + 1)) = st [w[k]] := by
        rw [cutS_st, cut_mid (by omega) (by omega), show ((k : Int) + 1).toNat - (k : Int).toNat = 1 by omega, show (k : Int).toNat = k by omega, List.drop_eq_getElem_cons hk, List.take_succ_cons]
        rfl
      simp [-cutS_st, show w.length ≤ sizeLine by omega, e, atI_k, hk, st_one]
      rfl
    · rintro ys s ⟨rfl, rfl⟩
      simp only [filter_no, List.map_nil]
      simp [backS]
  | @tup n xs h hl ih =>
    intro m
    have hz := line
    refine FnP.mk rfl ?_
    simp [b__law_same]
    refine compC ?_
    simp [show xs.length ≤ sizeLine by omega, show (-4611686018427387904 : Int) ≤ xs.length by omega, show (xs.length : Int) < 4611686018427387904 by omega]
    refine (compF (E := [Sl.d (.tup xs), Sl.d (.tup xs), .no]) (m := m) (p := fun _ => false) (h := fun d => d) (by rfl) ?_).mono ?_
    · intro d hd
      obtain ⟨k, hk, rfl⟩ := mem_upTo hd
      refine ⟨_, rfl, ?_⟩
      simp [atI_k, hk]
      refine callV (ih _ (List.getElem_mem hk)) ?_
      simp
      rfl
    · rintro ys s ⟨rfl, rfl⟩
      simp only [filter_no, List.map_nil]
      simp [backS]
  | @lst n xs h hl ih =>
    intro m
    have hz := line
    refine FnP.mk rfl ?_
    simp [b__law_same]
    refine compC ?_
    simp [show xs.length ≤ sizeLine by omega, show (-4611686018427387904 : Int) ≤ xs.length by omega, show (xs.length : Int) < 4611686018427387904 by omega]
    refine (compF (E := [Sl.d (.lst xs), Sl.d (.lst xs), .no]) (m := m) (p := fun _ => false) (h := fun d => d) (by rfl) ?_).mono ?_
    · intro d hd
      obtain ⟨k, hk, rfl⟩ := mem_upTo hd
      refine ⟨_, rfl, ?_⟩
      simp [atI_k, hk]
      refine callV (ih _ (List.getElem_mem hk)) ?_
      simp
      rfl
    · rintro ys s ⟨rfl, rfl⟩
      simp only [filter_no, List.map_nil]
      simp [backS]
end Law
end

section
set_option Elab.async false
set_option linter.all false
set_option maxRecDepth 100000
set_option maxHeartbeats 400000
namespace Law
open PySem PySem.Spec PyProof.Rows L2 PL
/-! ### the great system -/
abbrev sgn (c : Nat) : D := sD [c]
abbrev row (r : Wd) : D := .tup (r.map sgn)
def kvR (R : List Wd) : List (Key × D) := (R.zipIdx).map fun p => (.inr (st [97 + p.2]), row p.1)
def ksR (R : List Wd) : List Key := (kvR R).map (·.1)
def vsR (R : List Wd) : List D := (kvR R).map (·.2)
theorem vsR_eq {R : List Wd} : vsR R = R.map row := by
  unfold vsR kvR
  rw [List.map_map]
  have : ((fun x : Key × D => x.2) ∘ fun p : Wd × Nat => ((Sum.inr (st [97 + p.2]) : Key), row p.1)) = row ∘ Prod.fst := rfl
  rw [this, ← List.map_map, List.zipIdx_map_fst]
theorem ksR_eq {R : List Wd} : ksR R = (List.range R.length).map fun i => .inr (st [97 + i]) := by
  unfold ksR kvR
  rw [List.map_map]
  have : ((fun x : Key × D => x.1) ∘ fun p : Wd × Nat => ((Sum.inr (st [97 + p.2]) : Key), row p.1)) = (fun i => (Sum.inr (st [97 + i]) : Key)) ∘ Prod.snd := rfl
  rw [this, ← List.map_map, List.zipIdx_map_snd, List.range_eq_range']
theorem kvR_find {c : Nat} : ∀ {R : List Wd} {n : Nat}, n ≤ c → c < n + R.length → (((R.zipIdx n).map fun p => ((Sum.inr (st [97 + p.2]) : Key), row p.1)).find? fun kv => decide (kv.1 = .inr (st [97 + c]))).map (·.2) = some (row (R.getD (c - n) []))
  | [], n, h1, h2 => by simp at h2; omega
  | r :: R, n, h1, h2 => by
    rw [List.zipIdx_cons, List.map_cons, List.find?_cons]
    by_cases e : n = c
    · subst e
      simp
    · have e2 : decide ((((Sum.inr (st [97 + n]) : Key), row r) : Key × D).1 = .inr (st [97 + c])) = false := by
        rw [decide_eq_false_iff_not]
        intro h
        injection h with h
        have := st_inj h
        simp at this
        exact e this
      rw [e2]
      dsimp only
      rw [kvR_find (R := R) (n := n + 1) (by omega) (by simp at h2; omega)]
      rw [show c - n = (c - (n + 1)) + 1 by omega, List.getD_cons_succ]
theorem ksR_at {R : List Wd} {c : Nat} (h : 97 ≤ c ∧ c < 97 + R.length) : findK (.inr (st [c]) : Key) (ksR R) (vsR R) = some (row (R.getD (c - 97) [])) := by
  unfold findK ksR vsR
  rw [zip_unzip]
  have := kvR_find (c := c - 97) (R := R) (n := 0) (by omega) (by omega)
  rw [show 97 + (c - 97) = c by omega] at this
  exact this
theorem merge_new {l : List (Key × D)} : ∀ {acc : List (Key × D)}, (∀ p ∈ l, ∀ q ∈ acc, q.1 ≠ p.1) → (l.map (·.1)).Nodup → mergeD acc l = acc ++ l := by
  induction l with
  | nil => intro acc _ _; simp [mergeD]
  | cons p l ih =>
    intro acc h hn
    rw [List.map_cons, List.nodup_cons] at hn
    have e : putKV acc p.1 p.2 = acc ++ [p] := by
      unfold putKV
      rw [if_neg]
      rw [List.any_eq_true]
      rintro ⟨q, hq, e⟩
      exact h p (List.mem_cons_self ..) q hq (of_decide_eq_true e)
    show mergeD (putKV acc p.1 p.2) l = _
    rw [e, ih ?_ hn.2]
    · simp
    · intro p' hp' q hq
      rcases List.mem_append.mp hq with hq | hq
      · exact h p' (List.mem_cons_of_mem _ hp') q hq
      · simp at hq
        subst hq
        intro e
        exact hn.1 (List.mem_map.mpr ⟨p', hp', e.symm⟩)
theorem nodup_ksR {R : List Wd} : (ksR R).Nodup := by
  rw [ksR_eq]
  unfold List.Nodup
  rw [List.pairwise_map]
  refine List.Pairwise.imp ?_ List.nodup_range
  intro a b h e
  injection e with e
  have := st_inj e
  simp at this
  exact h this
def sysD (t : Nat) (R : List Wd) : D := .tup [.int t, .dK (ksR R) (vsR R)]
@[simp] theorem c_low : Str.ofString "abcdefghijklmnopqrstuvwxyz" = st (List.range' 97 26) := by rfl
@[simp] theorem c_dig : Str.ofString "0123456789" = st (List.range' 48 10) := by rfl
@[simp] theorem c_empty : Str.ofString "" = st [] := by rfl
theorem is_name_spec {c : Nat} (h : 97 ≤ c ∧ c < 123) : pure' f_is_name [sgn c] (.bl true) := fun m => by
  have hz := line
  refine FnP.mk rfl ?_
  simp [b_is_name, show (36 : Nat) ≤ sizeLine by omega]
  refine callV (is_word_of_spec (by simp) (fun x hx => ?_) (by simp)) ?_
  · simp at hx
    subst hx
    simp
    omega
  · simp
theorem are_names_spec {R : List Wd} {w : Wd} {most : Int} (hw : okW R.length w) (hl : (w.length : Int) ≤ most) (hz0 : w.length ≤ 1000000) : pure' f_are_names [.dK (ksR R) (vsR R), row w, .int most] (.bl true) := fun m => by
  have hz := line
  refine FnP.mk rfl ?_
  simp [b_are_names, show ¬ (most < w.length) by omega]
  refine compC ?_
  simp
  refine ⟨by omega, (compM (E := [.d (.dK (ksR R) (vsR R)), .d (row w), .d (.int most), .no]) (m := m) (h := fun _ => .bl true) (by rfl) ?_).mono ?_⟩
  · intro d hd
    obtain ⟨c, hc, rfl⟩ := List.mem_map.mp hd
    refine ⟨_, rfl, ?_⟩
    simp [ksR_at (hw c hc)]
    rfl
  · rintro ys s ⟨rfl, rfl⟩
    simp [backS]
theorem is_tuple_of_spec {xs : List D} : pure' f_is_tuple_of [.tup xs, .int xs.length] (.bl true) := fun m => by
  refine FnP.mk rfl ?_
  simp [b_is_tuple_of]
theorem is_system_spec {t : Nat} {R : List Wd} (ok : okR R) (ht : 1 ≤ t ∧ t ≤ 4) : pure' f_is_system_machinetags [sysD t R] (.bl true) := fun m => by
  have hz := line
  have h1 := ok.l
  have h2 := ok.u
  have hk : (ksR R).length = R.length := by rw [ksR_eq]; simp
  have hv : (vsR R).length = R.length := by rw [vsR_eq]; simp
  refine FnP.mk rfl ?_
  simp [b_is_system_machinetags, sysD]
  refine callV (is_tuple_of_spec (xs := [.int t, .dK (ksR R) (vsR R)])) ?_
  simp
  refine callV (is_between_spec (by omega) (by omega)) ?_
  simp [hk, show (1 : Int) ≤ R.length by omega, show (R.length : Int) ≤ 200 by omega]
  refine compC ?_
  simp [hk]
  refine ⟨by omega, (compM (E := [.d (sysD t R), .d (.dK (ksR R) (vsR R)), .no, .no]) (m := m) (h := fun _ => .bl true) (by rfl) ?_).mono ?_⟩
  · intro d hd
    rw [ksR_eq, List.map_map] at hd
    obtain ⟨i, hi, rfl⟩ := List.mem_map.mp hd
    have hi := List.mem_range.mp hi
    refine ⟨_, rfl, ?_⟩
    simp [keyD]
    refine callV (is_name_spec (c := 97 + i) (by omega)) ?_
    simp
    rfl
  · rintro ys s ⟨rfl, rfl⟩
    simp [backS]
    refine compC ?_
    simp [hv]
    refine ⟨by omega, (compM (E := [.d (sysD t R), .d (.dK (ksR R) (vsR R)), .no, .no]) (m := m) (h := fun _ => .bl true) (by rfl) ?_).mono ?_⟩
    · intro d hd
      rw [vsR_eq] at hd
      obtain ⟨r, hr, rfl⟩ := List.mem_map.mp hd
      refine ⟨_, rfl, ?_⟩
      simp
      refine callV (are_names_spec (ok.w r hr) (by have := ok.z r hr; omega) (by have := ok.z r hr; omega)) ?_
      simp
      rfl
    · rintro ys s ⟨rfl, rfl⟩
      simp [backS]
end Law
end

section
set_option Elab.async false
set_option linter.all false
set_option maxRecDepth 100000
set_option maxHeartbeats 400000
namespace Law
open PySem PySem.Spec PyProof.Rows L2 PL
def grGo (t : Nat) (R : List Wd) : Nat → Wd → Nat → Wd × Nat
  | 0, w, d => (w, d)
  | n + 1, w, d => match nxt t R w with
    | none => (w, d)
    | some a => grGo t R n a (d + 1)
theorem add_row {u v : Wd} (h : u.length + v.length ≤ sizeLine) : gAdd (row u) (row v) = some (.d (row (u ++ v))) := by
  show (if (u.map sgn).length + (v.map sgn).length ≤ sizeLine then some (Wv.d (if (u.map sgn).isEmpty then row v else if (v.map sgn).isEmpty then row u else .tup (u.map sgn ++ v.map sgn))) else none) = _
  rw [if_pos (by simpa using h)]
  cases u with
  | nil => simp
  | cons a u => cases v with
    | nil => simp
    | cons b v => simp
theorem nxt_none {t : Nat} {R : List Wd} {w : Wd} (ht : 1 ≤ t) : nxt t R w = none ↔ w.length < t := by
  unfold nxt
  by_cases c : w.length < t
  · simp [c]
  · cases w with
    | nil => simp at c; omega
    | cons a w => simp [c]
theorem great_spec {t N : Nat} {R : List Wd} {w : Wd} (ok : okR R) (ht : 1 ≤ t ∧ t ≤ 4) (hw : okW R.length w) (hl : w.length ≤ 100) (hN : N ≤ 1000) :
    pure' f_great_run [sysD t R, row w, .int N] (.tup [row (grGo t R N w 0).1, .int (grGo t R N w 0).2]) := fun m => by
  have hz := line
  obtain ⟨res, hres⟩ : ∃ r, r = grGo t R N w 0 := ⟨_, rfl⟩
  rw [← hres]
  refine FnP.mk rfl ?_
  simp [b_great_run]
  refine callV (is_system_spec ok ht) ?_
  simp [sysD]
  refine callV (are_names_spec hw (by omega) (by omega)) ?_
  simp
  refine callV (check_steps_spec (by omega) (by omega)) ?_
  simp
  refine whileP (fun n s => ∃ u d, s = ⟨[.d (sysD t R), .d (row u), .d (.int N), .d (.int t), .d (.dK (ksR R) (vsR R)), .d (.int (d : Nat))], m⟩ ∧ d + n = N ∧ okW R.length u ∧ u.length ≤ 100 + 8 * d ∧ grGo t R n u d = res) ?_ N _ _ (by omega) ⟨w, 0, by rfl, by omega, hw, by omega, hres.symm⟩
  rintro n _ ⟨u, d, rfl, hd, hu, hul, hg⟩
  simp
  by_cases c : d < N
  · obtain ⟨k, rfl⟩ : ∃ k, n = k + 1 := ⟨n - 1, by omega⟩
    simp [c]
    by_cases c2 : t ≤ u.length
    · simp [c2]
      cases u with
      | nil => simp at c2; omega
      | cons a u =>
        have ha := hu.head
        have hr := ok.getD (a - 97)
        simp only [List.length_cons] at c2 hul
        unfold grGo at hg
        have e1 : nxt t R (a :: u) = some ((a :: u).drop t ++ R.getD (a - 97) []) := by unfold nxt; rw [if_neg (by simp; omega)]
        have hn := nxt_ok ok hu e1
        rw [e1] at hg
        have e2 : ¬ (HT.sIx (a :: u).length 0 (some (t : Int)) = 0 ∧ HT.sIx (a :: u).length (a :: u).length none = (a :: u).length) := by
          rw [sIx_pos (by omega)]
          simp
          omega
        have e3 : PL.cutD ((a :: u).map sgn) (some (t : Int)) none = ((a :: u).drop t).map sgn := by
          unfold PL.cutD
          rw [cut_from (by omega), List.map_drop]
          simp
        rw [if_neg e2, e3]
        have e4 : ((a :: u).drop t).length + (R.getD (a - 97) []).length ≤ sizeLine := by
          have := hr.1
          simp only [List.length_drop, List.length_cons]
          omega
        simp only [List.map_cons, atI0, Option.map_some, RP_lift_some, fz_d, get_v, peek_, List.getElem?_cons_succ, List.getElem?_cons_zero, derf_dK, get_e, derf_str, derf_tup, lift2_, gIx_dK, keyOf_str, Option.bind_some, ksR_at ha, add_row e4]
        simp
        exact ⟨_, d + 1, ⟨by rw [List.map_append, List.map_drop, List.getD_eq_getElem?_getD]; rfl, by omega⟩, by omega, hn.1, by have := hn.2; simp only [List.length_cons] at this; omega, hg⟩
    · have : res = (u, d) := by
        rw [← hg]
        unfold grGo
        rw [(nxt_none ht.1).mpr (by omega)]
      subst this
      simp [c2, show (2 : Nat) ≤ sizeLine by omega]
  · have : n = 0 := by omega
    subst this
    have : res = (u, d) := by rw [← hg]; rfl
    subst this
    simp [c, show (2 : Nat) ≤ sizeLine by omega]
/-- a row of next words -/
def Ch (t : Nat) (R : List Wd) (f : List Wd) : Prop := ∀ i a b, f[i]? = some a → f[i + 1]? = some b → nxt t R a = some b
theorem last_at {f : List Wd} (h : f ≠ []) : f[f.length - 1]? = some (lastW f) := by
  unfold lastW
  have := List.length_pos_iff.mpr h
  rw [List.getLastD_eq_getLast?, List.getLast?_eq_getElem?, List.getElem?_eq_getElem (by omega)]
  rfl
theorem Ch.snoc {t : Nat} {R f : List Wd} {a : Wd} (h : Ch t R f) (hn : f ≠ []) (e : nxt t R (lastW f) = some a) : Ch t R (f ++ [a]) := by
  intro i x y hx hy
  have hp := List.length_pos_iff.mpr hn
  by_cases c : i + 1 < f.length
  · rw [List.getElem?_append_left (by omega)] at hx hy
    exact h i x y hx hy
  · have hi : i + 1 < (f ++ [a]).length := (List.getElem?_eq_some_iff.mp hy).1
    rw [List.length_append, List.length_singleton] at hi
    have e2 : i = f.length - 1 := by omega
    subst e2
    rw [List.getElem?_append_left (by omega), last_at hn] at hx
    rw [List.getElem?_append_right (by omega), show f.length - 1 + 1 - f.length = 0 by omega] at hy
    cases hx
    cases hy
    exact e
structure WayOk (t : Nat) (R : List Wd) (N : Nat) (w : Wd) (f : List Wd) (q : How) : Prop where
  ok : okF R 100 f
  ch : Ch t R f
  hd : f[0]? = some w
  l : f.length ≤ N + 1
  h : q = .h → nxt t R (lastW f) = none
  r : q = .r → f.length = N + 1 ∧ nxt t R (lastW f) ≠ none
theorem way_ok {t N : Nat} {R : List Wd} {w : Wd} (okr : okR R) : ∀ {n : Nat} {f : List Wd}, okF R 100 f → Ch t R f → f[0]? = some w → f.length + n = N + 1 → N ≤ 500 → WayOk t R N w (wayGo t R n f).1 (wayGo t R n f).2
  | 0, f, h1, h2, h3, h4, h5 => by
    unfold wayGo
    by_cases c : nxt t R (lastW f) = none
    · simp only [c, if_true]
      exact ⟨h1, h2, h3, by omega, fun _ => c, fun z => nomatch z⟩
    · simp only [c, if_false]
      exact ⟨h1, h2, h3, by omega, (fun z => nomatch z), fun _ => ⟨by omega, c⟩⟩
  | n + 1, f, h1, h2, h3, h4, h5 => by
    unfold wayGo
    cases e : nxt t R (lastW f) with
    | none =>
      dsimp only
      exact ⟨h1, h2, h3, by omega, fun _ => e, fun z => nomatch z⟩
    | some a =>
      have g1 := h1.snoc okr (by omega) e
      have g2 := h2.snoc h1.ne e
      have hp := List.length_pos_iff.mpr h1.ne
      have g3 : (f ++ [a])[0]? = some w := by rw [List.getElem?_append_left hp]; exact h3
      dsimp only
      by_cases c : a ∈ f
      · rw [if_pos c]
        exact ⟨g1, g2, g3, by simp; omega, (fun z => nomatch z), fun z => nomatch z⟩
      · rw [if_neg c]
        exact way_ok okr g1 g2 g3 (by simp; omega) h5
theorem way_ok0 {t N : Nat} {R : List Wd} {w : Wd} (okr : okR R) (hw : okW R.length w) (hl : w.length ≤ 100) (hN : N ≤ 500) : WayOk t R N w (wayGo t R N [w]).1 (wayGo t R N [w]).2 :=
  way_ok okr ⟨by simp, by simp; exact ⟨hw, by omega⟩, by simp⟩ (fun i a b h1 h2 => by simp at h2) rfl (by simp; omega) hN
theorem gr_along {t : Nat} {R f : List Wd} (h : Ch t R f) : ∀ {k i d : Nat} {w u : Wd}, f[i]? = some w → f[i + k]? = some u → grGo t R k w d = (u, d + k)
  | 0, i, d, w, u, h1, h2 => by
    rw [Nat.add_zero, h1] at h2
    cases h2
    rfl
  | k + 1, i, d, w, u, h1, h2 => by
    have hl : i + (k + 1) < f.length := (List.getElem?_eq_some_iff.mp h2).1
    have h3 : f[i + 1]? = some f[i + 1] := List.getElem?_eq_getElem (by omega)
    unfold grGo
    rw [h i w _ h1 h3]
    dsimp only
    rw [gr_along h (k := k) (i := i + 1) (d := d + 1) h3 (by rw [← h2]; congr 1; omega)]
    congr 1
    omega
theorem gr_more {t : Nat} {R f : List Wd} (h : Ch t R f) {u : Wd} (hn : nxt t R u = none) (j : Nat) : ∀ {k i d : Nat} {w : Wd}, f[i]? = some w → f[i + k]? = some u → grGo t R (k + j) w d = (u, d + k)
  | 0, i, d, w, h1, h2 => by
    rw [Nat.add_zero, h1] at h2
    cases h2
    rw [Nat.zero_add]
    cases j with
    | zero => rfl
    | succ j => unfold grGo; rw [hn]; rfl
  | k + 1, i, d, w, h1, h2 => by
    have hl : i + (k + 1) < f.length := (List.getElem?_eq_some_iff.mp h2).1
    have h3 : f[i + 1]? = some f[i + 1] := List.getElem?_eq_getElem (by omega)
    rw [show k + 1 + j = (k + j) + 1 by omega]
    unfold grGo
    rw [h i w _ h1 h3]
    dsimp only
    rw [gr_more h hn j (k := k) (i := i + 1) (d := d + 1) h3 (by rw [← h2]; congr 1; omega)]
    congr 1
    omega
theorem way_gr {t N : Nat} {R f : List Wd} {w : Wd} {q : How} (h : WayOk t R N w f q) : grGo t R (f.length - 1) w 0 = (lastW f, f.length - 1) := by
  have := gr_along h.ch (k := f.length - 1) (i := 0) (d := 0) h.hd (by rw [Nat.zero_add]; exact last_at h.ok.ne)
  rw [this, Nat.zero_add]
theorem way_gr2 {t N : Nat} {R f : List Wd} {w : Wd} (h : WayOk t R N w f .h) (j : Nat) : grGo t R (f.length - 1 + j) w 0 = (lastW f, f.length - 1) := by
  have := gr_more h.ch (h.h rfl) j (k := f.length - 1) (i := 0) (d := 0) (w := w) h.hd (by rw [Nat.zero_add]; exact last_at h.ok.ne)
  rw [this, Nat.zero_add]
end Law
end

section
set_option Elab.async false
set_option linter.all false
set_option maxRecDepth 100000
set_option maxHeartbeats 1000000
namespace Law
open PySem PySem.Spec PyProof.Rows L2 PL
@[irreducible] def tail86 : S → Fl := (sSeq (sSet 13 (cTup (cCons (cVar 1) (cCons (cFz (cOpN gDict [.e (cFz (cComp (iRng gRng1 (cCons (cFz (cOpN gLen [.v 2])) cNil)) (.n 12) [12] cYes (cFz (cTup (cCons (cFz (cOp2 gIx (.e (cC (.str "abcdef"))) (.v 12))) (cCons (cFz (cOpN gTupleS [.e (cFz (cOp2 gIx (.v 2) (.v 12)))])) cNil))))))])) cNil))))
    (sSeq (sSet 14 (cIf (cB (cOp2 gNe (.v 8) (.e (cC (.str "running"))))) (cD (cVar 9)) (cD (cVar 6))))
    (sSeq (sSet 15 (cCallK f_great_run cNil (cCons (cFz (cIf (cB (cOp2 gEq (.v 8) (.e (cC (.str "halted"))))) (cOp2 gAdd (.v 14) (.e (cC (.int 2)))) (cD (cVar 14)))) (cCons (cFz (cOpN gTupleS [.v 3])) (cCons (cVar 13) cNil))) [2, 1, 0]))
    (sRet (cCall (f__law_same 6) (cCons (cVar 15) (cCons (cFz (cTup (cCons (cFz (cOpN gTupleS [.e (cFz (cOp2 gIx (.v 7) (.e (cFz (cOp1 gNeg (.e (cC (.int 1))))))))])) (cCons (cVar 14) cNil)))) cNil)) [])))))
@[irreducible] def tail85 : S → Fl := (sSeq (sFor (iRng gRng1 (cCons (cFz (cOpN gMin2 [.v 9, .e (cC (.int 6))])) cNil)) (gN 12)
    (sIf (cNot (cB (cCall (f__law_same 6) (cCons (cFz (cIf (cB (cD (cVar 4))) (cCallK f_next_tag cNil (cCons (cFz (cOp2 gIx (.v 7) (.v 12))) (cCons (cVar 5) cNil)) [1, 0]) (cCall f_next_tag (cCons (cVar 5) (cCons (cFz (cOp2 gIx (.v 7) (.v 12))) cNil)) []))) (cCons (cFz (cOp2 gIx (.v 7) (.e (cFz (cOp2 gAdd (.v 12) (.e (cC (.int 1)))))))) cNil)) [])))
    (sRet (cD (cC (.bl false))))
    sPass))
    (sSeq (sIf (cAnd (cB (cOp2 gEq (.v 8) (.e (cC (.str "halted"))))) (cB (cOp2 (gIsN true) (.e (cFz (cCall f_next_tag (cCons (cVar 5) (cCons (cFz (cOp2 gIx (.v 7) (.e (cFz (cOp1 gNeg (.e (cC (.int 1)))))))) cNil)) []))) (.e (cC .non)))))
    (sRet (cD (cC (.bl false))))
    sPass)
    tail86))
theorem ch_len {t : Nat} {R f : List Wd} {w : Wd} (ok : okR R) (h : Ch t R f) (hf : ∀ u ∈ f, okW R.length u) (h0 : f[0]? = some w) : ∀ {k : Nat} {u : Wd}, f[k]? = some u → u.length ≤ w.length + 8 * k
  | 0, u, e => by rw [h0] at e; cases e; omega
  | k + 1, u, e => by
    have hl := (List.getElem?_eq_some_iff.mp e).1
    have e1 : f[k]? = some f[k] := List.getElem?_eq_getElem (by omega)
    have := ch_len ok h hf h0 e1
    have h2 := nxt_ok ok (hf _ (List.getElem_mem (show k < f.length by omega))) (h k _ u e1 e)
    omega
def pairF (R : List Wd) (d : D) : D := match d with
  | .int k => .tup [sD [97 + k.toNat], row (R.getD k.toNat [])]
  | _ => .non
theorem dict_spec {R : List Wd} (hu : R.length ≤ 6) : gDict [.lst ((PL.upTo 0 R.length).map (pairF R))] = some (.nw (.dK (kvR R))) := by
  have e : PL.pairsOf ((PL.upTo 0 R.length).map (pairF R)) = some (kvR R) := by
    have h1 : kvR R = (List.range R.length).map fun i => ((.inr (st [97 + i]) : Key), row (R.getD i [])) := by
      unfold kvR
      apply List.ext_getElem
      · simp
      · intro i h1 h2
        simp at h1
        simp [h1]
    rw [h1]
    unfold PL.upTo
    rw [List.map_map]
    have key : ∀ l : List Nat, PL.pairsOf (l.map (pairF R ∘ fun k : Nat => D.int (0 + (k : Int)))) = some (l.map fun i => ((.inr (st [97 + i]) : Key), row (R.getD i []))) := by
      intro l
      induction l with
      | nil => rfl
      | cons a l ih =>
        rw [List.map_cons, List.map_cons]
        have e2 : (0 + (a : Int)).toNat = a := by omega
        show ((PL.pairsOf (l.map _)).map ((.inr (st [97 + (0 + (a : Int)).toNat]), row (R.getD (0 + (a : Int)).toNat [])) :: ·)) = _
        rw [ih, e2]
        rfl
    exact key _
  show (PL.pairsOf _).map _ = _
  rw [e]
  show some (Wv.nw (.dK (mergeD [] (kvR R)))) = _
  rw [merge_new (acc := []) (fun _ _ _ h => by simp at h) nodup_ksR]
  rfl
theorem map_sgn_st {w : Wd} : (w.map fun c => sD [c]) = w.map sgn := rfl
theorem tail86_spec {u : Store} {n t N L : Nat} {R f : List Wd} {w : Wd} {q : How} {bn : Bool} {x10 x11 x : Sl} {K : KF} (ok : okR R) (ht : 1 ≤ t ∧ t ≤ 4) (hw : okW R.length w) (hl : w.length ≤ 8) (hN : N ≤ 60) (hwy : WayOk t R N w f q) (hL : f.length = L + 1) (hx : x.isOwn = false)
    (hK : ∀ env, K.rt (.d (.bl true)) ⟨env, u⟩) :
    FP (tail86 ⟨[.d (.ref n), .d (.int t), .d (.tup (R.map sD)), .d (sD w), .d (.bl bn), .d (tagsD t R), .d (.int N), .d (.lst (f.map sD)), .d (.str (hS q)), .d (.int L), x10, x11, x, .no, .no, .no], u⟩) K := by
  have hz := line
  have h1 := ok.l
  have h2 := ok.u
  have hne := hwy.ok.ne
  have hla := at_last hne
  have hLN : L ≤ N := by have := hwy.l; omega
  have hlz := hwy.ok.last.2
  have hlf := hwy.ok.l
  unfold tail86
  simp
  refine compC ?_
  simp [hx, show (-4611686018427387904 : Int) ≤ R.length by omega, show (R.length : Int) < 4611686018427387904 by omega, show R.length ≤ sizeLine by omega]
  refine (compM (E := [.d (.ref n), .d (.int t), .d (.tup (R.map sD)), .d (sD w), .d (.bl bn), .d (tagsD t R), .d (.int N), .d (.lst (f.map sD)), .d (.str (hS q)), .d (.int L), x10, x11, .no, .no, .no, .no]) (m := u) (h := pairF R) (by rfl) ?_).mono ?_
  · intro d hd
    obtain ⟨k, hk, rfl⟩ := mem_upTo hd
    have hk6 : k < abc.length := by show k < 6; omega
    have e1 : abc[k]? = some (97 + k) := by
      have : k = 0 ∨ k = 1 ∨ k = 2 ∨ k = 3 ∨ k = 4 ∨ k = 5 := by omega
      rcases this with rfl | rfl | rfl | rfl | rfl | rfl <;> rfl
    have hr := ok.getD k
    have hr1 := hr.1
    rw [List.getD_eq_getElem?_getD, List.getElem?_eq_getElem hk] at hr1
    refine ⟨_, rfl, ?_⟩
    simp [atI_k, hk, hk6, e1, st_one, pairF, show (R[k]).length ≤ sizeLine by simp at hr1; omega]
    rfl
  · rintro ys s ⟨rfl, rfl⟩
    simp [backS]
    rw [dict_spec h2]
    have hgd : ∀ d : Int, Gd 2 (.tup [row (lastW f), .int d]) := fun d => by
      refine .tup (fun x hx => ?_) (by simp)
      simp at hx
      rcases hx with rfl | rfl
      · refine .tup (fun y hy => ?_) (by simp; omega)
        obtain ⟨c, _, rfl⟩ := List.mem_map.mp hy
        exact .str _ (by simp)
      · exact .int _
    have hg1 := way_gr hwy
    rw [hL] at hg1
    cases q
    · have hg2 := way_gr2 hwy 2
      rw [hL] at hg2
      have hsp := great_spec (N := L + 2) ok ht hw (show w.length ≤ 100 by omega) (show L + 2 ≤ 1000 by omega)
      rw [show L + 2 = L + 1 - 1 + 2 by omega, hg2] at hsp
      simp [pm, show w.length ≤ sizeLine by omega, hla]
      refine callV hsp ?_
      simp [hla, show (lastW f).length ≤ sizeLine by omega]
      refine callV (same_spec ((hgd L).upn 3)) ?_
      simp [hK]
    · have hsp := great_spec (N := L) ok ht hw (show w.length ≤ 100 by omega) (show L ≤ 1000 by omega)
      rw [show L + 1 - 1 = L by omega] at hg1
      rw [hg1] at hsp
      simp [pm, show w.length ≤ sizeLine by omega, hla]
      refine callV hsp ?_
      simp [hla, show (lastW f).length ≤ sizeLine by omega]
      refine callV (same_spec ((hgd L).upn 3)) ?_
      simp [hK]
    · have hr := (hwy.r rfl).1
      have hLN' : L = N := by omega
      subst hLN'
      have hsp := great_spec (N := L) ok ht hw (show w.length ≤ 100 by omega) (show L ≤ 1000 by omega)
      rw [show L + 1 - 1 = L by omega] at hg1
      rw [hg1] at hsp
      simp [pm, show w.length ≤ sizeLine by omega, hla]
      refine callV hsp ?_
      simp [hla, show (lastW f).length ≤ sizeLine by omega]
      refine callV (same_spec ((hgd L).upn 3)) ?_
      simp [hK]
theorem tail_spec {u : Store} {n t N L : Nat} {R f : List Wd} {w : Wd} {q : How} {bn : Bool} {x10 x11 : Sl} {K : KF} (ok : okR R) (ht : 1 ≤ t ∧ t ≤ 4) (hw : okW R.length w) (hl : w.length ≤ 8) (hN : N ≤ 60) (hwy : WayOk t R N w f q) (hL : f.length = L + 1)
    (hK : ∀ env, K.rt (.d (.bl true)) ⟨env, u⟩) :
    FP (tail85 ⟨[.d (.ref n), .d (.int t), .d (.tup (R.map sD)), .d (sD w), .d (.bl bn), .d (tagsD t R), .d (.int N), .d (.lst (f.map sD)), .d (.str (hS q)), .d (.int L), x10, x11, .no, .no, .no, .no], u⟩) K := by
  have hz := line
  have hne := hwy.ok.ne
  have hla := at_last hne
  have hLN : L ≤ N := by have := hwy.l; omega
  unfold tail85
  have hmn : (if (6 : Int) < L then (6 : Int) else L).toNat = min 6 L := by split <;> omega
  simp [show (-4611686018427387904 : Int) ≤ (if (6 : Int) < L then (6 : Int) else L) by split <;> omega, show (if (6 : Int) < L then (6 : Int) else L) < 4611686018427387904 by split <;> omega, hmn]
  refine forP (fun ds s => ∃ x : Sl, x.isOwn = false ∧ s = ⟨[.d (.ref n), .d (.int t), .d (.tup (R.map sD)), .d (sD w), .d (.bl bn), .d (tagsD t R), .d (.int N), .d (.lst (f.map sD)), .d (.str (hS q)), .d (.int L), x10, x11, x, .no, .no, .no], u⟩ ∧ ∀ d ∈ ds, ∃ k : Nat, d = .int k ∧ k < L ∧ k < 6) ?_ ?_ _ _ ?_
  · rintro d ds _ ⟨x, hx, rfl, hd⟩
    obtain ⟨k, rfl, hk, hk6⟩ := hd d (List.mem_cons_self ..)
    have hkf : k < f.length := by omega
    have hkf2 : k + 1 < f.length := by omega
    have hlen := ch_len ok hwy.ch (fun u hu => (hwy.ok.w u hu).1) hwy.hd (List.getElem?_eq_getElem hkf)
    have hlen2 := ch_len ok hwy.ch (fun u hu => (hwy.ok.w u hu).1) hwy.hd (List.getElem?_eq_getElem hkf2)
    have hnx := hwy.ch k _ _ (List.getElem?_eq_getElem hkf) (List.getElem?_eq_getElem hkf2)
    have hv := (hwy.ok.w _ (List.getElem_mem hkf)).1
    have hsp := next_tag_spec ok ht.1 hv (show (f[k]).length ≤ 60 by omega)
    rw [hnx] at hsp
    refine ⟨_, rfl, ?_⟩
    have e1 : atI (f.map sD) ((k : Int) + 1) = some (sD f[k + 1]) := by
      rw [show ((k : Int) + 1) = ((k + 1 : Nat) : Int) by omega, atI_k, List.getElem?_map, List.getElem?_eq_getElem hkf2]
      rfl
    cases bn
    · simp [atI_k, hkf, pm]
      refine callV hsp ?_
      simp [e1, oD]
      refine callV (same_spec (.str _ (by omega))) ?_
      simp
      exact ⟨_, rfl, rfl, fun d hd' => hd d (List.mem_cons_of_mem _ hd')⟩
    · simp [atI_k, hkf, pm]
      refine callV hsp ?_
      simp [e1, oD]
      refine callV (same_spec (.str _ (by omega))) ?_
      simp
      exact ⟨_, rfl, rfl, fun d hd' => hd d (List.mem_cons_of_mem _ hd')⟩
  · rintro _ ⟨x, hx, rfl, _⟩
    have fin := tail86_spec (n := n) (bn := bn) (x10 := x10) (x11 := x11) (K := K) ok ht hw hl hN hwy hL hx hK
    cases q
    · have hnn := hwy.h rfl
      have hlw := (nxt_none ht.1).mp hnn
      have hsp := next_tag_spec ok ht.1 hwy.ok.last.1 (show (lastW f).length ≤ 60 by omega)
      rw [hnn] at hsp
      simp [hla]
      refine callV hsp ?_
      simp [oD]
      exact fin
    · simp
      exact fin
    · simp
      exact fin
  · refine ⟨.no, rfl, rfl, fun d hd => ?_⟩
    obtain ⟨k, hk, rfl⟩ := mem_upTo hd
    exact ⟨k, rfl, by omega, by omega⟩
end Law
end

section
set_option Elab.async false
set_option linter.all false
set_option maxRecDepth 100000
set_option maxHeartbeats 1000000
namespace Law
open PySem PySem.Spec PyProof.Rows L2 PL
theorem pick5 {i : Int} (h0 : 0 ≤ i) (h1 : i < 5) : ∃ N : Nat, N ≤ 60 ∧ atI [D.int 0, D.int 3, D.int 12, D.int 30, D.int 60] i = some (.int N) := by
  have : i = 0 ∨ i = 1 ∨ i = 2 ∨ i = 3 ∨ i = 4 := by omega
  rcases this with rfl | rfl | rfl | rfl | rfl
  · exact ⟨0, by omega, rfl⟩
  · exact ⟨3, by omega, rfl⟩
  · exact ⟨12, by omega, rfl⟩
  · exact ⟨30, by omega, rfl⟩
  · exact ⟨60, by omega, rfl⟩
theorem hS_len (q : How) : (hS q).cps.toList.length ≤ 1000000 := by cases q <;> decide
theorem gd_str (x : String) (h : (Str.ofString x).cps.toList.length ≤ 1000000) {n : Nat} : Gd n (.str (Str.ofString x)) := by
  rw [st_of (Str.ofString x)]
  exact .str _ h
theorem gd_told {f : List Wd} {q : How} {d : Int} (hz : (lastW f).length ≤ 1000000) : Gd 2 (.lst [.tup [.str (hS q), .int d, sD (lastW f)], fateD (f, q)]) := by
  refine .lst (fun x hx => ?_) (by simp)
  simp at hx
  rcases hx with rfl | rfl
  · refine .tup (fun y hy => ?_) (by simp)
    simp at hy
    rcases hy with rfl | rfl | rfl
    · rw [st_of (hS q)]
      exact .str _ (hS_len q)
    · exact .int _
    · exact .str _ hz
  · cases q
    · refine .tup (fun y hy => ?_) (by simp)
      simp at hy
      rcases hy with rfl | rfl
      · exact gd_str _ (by decide)
      · exact .int _
    · refine .tup (fun y hy => ?_) (by simp)
      simp at hy
      rcases hy with rfl | rfl | rfl
      · exact gd_str _ (by decide)
      · exact .int _
      · exact .int _
    · refine .tup (fun y hy => ?_) (by simp)
      simp at hy
      subst hy
      exact gd_str _ (by decide)
theorem idx_last {f : List Wd} (hne : f ≠ []) : gIndex (.lst (f.map sD)) [sD (lastW f)] = some (.d (.int (f.idxOf (lastW f) : Nat))) := by
  have key : ∀ (f : List Wd) (a : Wd) (n : Nat), a ∈ f → idxF (sD a) (f.map sD) n = some (n + f.idxOf a) := by
    intro f
    induction f with
    | nil => intro a n h; simp at h
    | cons b f ih =>
      intro a n h
      show (if eqF (sD b) (sD a) = true then some n else idxF (sD a) (f.map sD) (n + 1)) = _
      have e : (eqF (sD b) (sD a) = true) ↔ b = a := by
        show ((st b == st a) = true) ↔ _
        rw [beq_iff_eq, st_eq]
      by_cases c : b = a
      · rw [if_pos (e.mpr c)]
        subst c
        simp
      · rw [if_neg (fun z => c (e.mp z)), ih a (n + 1) (by
          rcases List.mem_cons.mp h with h | h
          · exact absurd h.symm c
          · exact h), List.idxOf_cons, beq_false_of_ne c]
        simp only [cond_false]
        congr 1
        omega
  have hm : lastW f ∈ f := List.mem_of_getElem? (last_at hne)
  show (if flatD (sD (lastW f)) = true ∧ (f.map sD).all flatD = true then (idxF (sD (lastW f)) (f.map sD) 0).map fun j => Wv.d (.int (j : Nat)) else none) = _
  rw [if_pos ⟨rfl, by rw [List.all_map]; exact List.all_eq_true.mpr fun _ _ => rfl⟩, key _ _ _ hm]
  simp
/-- what the law says of a word's fate -/
theorem tags_body {m : Store} {n t : Nat} {B : Int} {R : List Wd} {w : Wd} {bn : Bool} {K : KF} (hb : Bx m n B) (hB : B ≤ 1000000000) (ok : okR R) (ht : 1 ≤ t ∧ t ≤ 4) (hw : okW R.length w) (hl : w.length ≤ 8)
    (hK : ∀ env u, Bx u n (B + 1) → K.rt (.d (.bl true)) ⟨env, u⟩) :
    FP (b__law_tags_right ⟨[.d (.ref n), .d (.int t), .d (.tup (R.map sD)), .d (sD w), .d (.bl bn), .no, .no, .no, .no, .no, .no, .no, .no, .no, .no, .no], m⟩) K := by
  have hz := line
  cases bn
  · simp [b__law_tags_right, pm]
    refine make_spec ok ht ?_
    simp
    refine callP (take_spec (many := 5) hb (by omega) (by decide) (by decide)) ?_
    rintro v u ⟨i, rfl, h0, h1, hb2⟩
    obtain ⟨N, hN, e⟩ := pick5 h0 h1
    simp [show (5 : Nat) ≤ sizeLine by omega, e]
    have hwy := way_ok0 (t := t) ok hw (show w.length ≤ 100 by omega) (show N ≤ 500 by omega)
    refine callV (way_spec ok ht.1 hw (by omega) (by omega)) ?_
    have h1r := tag_run_spec ok ht.1 hw (show w.length ≤ 60 by omega) (show N ≤ 500 by omega)
    have h1f := tag_fate_spec ok ht.1 hw (show w.length ≤ 60 by omega) (show N ≤ 500 by omega)
    revert hwy h1r h1f
    generalize wayGo t R N [w] = res
    obtain ⟨f, q⟩ := res
    intro hwy h1r h1f
    dsimp only at hwy
    have hne := hwy.ok.ne
    have hp := List.length_pos_iff.mpr hne
    obtain ⟨L, hL⟩ : ∃ L, f.length = L + 1 := ⟨f.length - 1, by omega⟩
    have hla := at_last hne
    have hLN : L ≤ N := by have := hwy.l; omega
    have hzl := hwy.ok.last.2
    have hNN := hwy.ok.l
    simp [CYes, hL]
    refine callV h1r ?_
    simp
    refine callV h1f ?_
    cases q
    · have hg := gd_told (f := f) (q := .h) (d := L) (by omega)
      have fin := fun x10 x11 => tail_spec (n := n) (u := u) (bn := false) (x10 := x10) (x11 := x11) (K := K) ok ht hw hl hN hwy hL fun env => hK env u hb2
      simp [fateD, hL] at hg
      simp [runD, fateD, hL, hla]
      refine callV (same_spec (hg.upn 3)) ?_
      rw [bl_bl, RP_lift_some, if_pos rfl]
      unfold tail85 tail86 at fin
      exact fin _ _
    · have hg := gd_told (f := f) (q := .a) (d := L) (by omega)
      have fin := fun x10 x11 => tail_spec (n := n) (u := u) (bn := false) (x10 := x10) (x11 := x11) (K := K) ok ht hw hl hN hwy hL fun env => hK env u hb2
      simp [fateD, hL] at hg
      simp [runD, fateD, hL, hla, idx_last hne]
      refine callV (same_spec (hg.upn 3)) ?_
      rw [bl_bl, RP_lift_some, if_pos rfl]
      unfold tail85 tail86 at fin
      exact fin _ _
    · have hLN' : L = N := by have := (hwy.r rfl).1; omega
      have hg := gd_told (f := f) (q := .r) (d := N) (by omega)
      have fin := fun x10 x11 => tail_spec (n := n) (u := u) (bn := false) (x10 := x10) (x11 := x11) (K := K) ok ht hw hl hN hwy hL fun env => hK env u hb2
      simp [fateD, hL] at hg
      simp [runD, fateD, hL, hla]
      refine callV (same_spec (hg.upn 3)) ?_
      rw [bl_bl, RP_lift_some, if_pos rfl]
      unfold tail85 tail86 at fin
      exact fin _ _
  · simp [b__law_tags_right, pm]
    refine make_spec ok ht ?_
    simp
    refine callP (take_spec (many := 5) hb (by omega) (by decide) (by decide)) ?_
    rintro v u ⟨i, rfl, h0, h1, hb2⟩
    obtain ⟨N, hN, e⟩ := pick5 h0 h1
    simp [show (5 : Nat) ≤ sizeLine by omega, e]
    have hwy := way_ok0 (t := t) ok hw (show w.length ≤ 100 by omega) (show N ≤ 500 by omega)
    refine callV (way_spec ok ht.1 hw (by omega) (by omega)) ?_
    have h1r := tag_run_spec ok ht.1 hw (show w.length ≤ 60 by omega) (show N ≤ 500 by omega)
    have h1f := tag_fate_spec ok ht.1 hw (show w.length ≤ 60 by omega) (show N ≤ 500 by omega)
    revert hwy h1r h1f
    generalize wayGo t R N [w] = res
    obtain ⟨f, q⟩ := res
    intro hwy h1r h1f
    dsimp only at hwy
    have hne := hwy.ok.ne
    have hp := List.length_pos_iff.mpr hne
    obtain ⟨L, hL⟩ : ∃ L, f.length = L + 1 := ⟨f.length - 1, by omega⟩
    have hla := at_last hne
    have hLN : L ≤ N := by have := hwy.l; omega
    have hzl := hwy.ok.last.2
    have hNN := hwy.ok.l
    simp [CYes, hL]
    refine callV h1r ?_
    simp
    refine callV h1f ?_
    cases q
    · have hg := gd_told (f := f) (q := .h) (d := L) (by omega)
      have fin := fun x10 x11 => tail_spec (n := n) (u := u) (bn := true) (x10 := x10) (x11 := x11) (K := K) ok ht hw hl hN hwy hL fun env => hK env u hb2
      simp [fateD, hL] at hg
      simp [runD, fateD, hL, hla]
      refine callV (same_spec (hg.upn 3)) ?_
      rw [bl_bl, RP_lift_some, if_pos rfl]
      unfold tail85 tail86 at fin
      exact fin _ _
    · have hg := gd_told (f := f) (q := .a) (d := L) (by omega)
      have fin := fun x10 x11 => tail_spec (n := n) (u := u) (bn := true) (x10 := x10) (x11 := x11) (K := K) ok ht hw hl hN hwy hL fun env => hK env u hb2
      simp [fateD, hL] at hg
      simp [runD, fateD, hL, hla, idx_last hne]
      refine callV (same_spec (hg.upn 3)) ?_
      rw [bl_bl, RP_lift_some, if_pos rfl]
      unfold tail85 tail86 at fin
      exact fin _ _
    · have hLN' : L = N := by have := (hwy.r rfl).1; omega
      have hg := gd_told (f := f) (q := .r) (d := N) (by omega)
      have fin := fun x10 x11 => tail_spec (n := n) (u := u) (bn := true) (x10 := x10) (x11 := x11) (K := K) ok ht hw hl hN hwy hL fun env => hK env u hb2
      simp [fateD, hL] at hg
      simp [runD, fateD, hL, hla]
      refine callV (same_spec (hg.upn 3)) ?_
      rw [bl_bl, RP_lift_some, if_pos rfl]
      unfold tail85 tail86 at fin
      exact fin _ _
theorem tags_right_spec {m : Store} {n t : Nat} {B : Int} {R : List Wd} {w : Wd} {bn : Bool} (hb : Bx m n B) (hB : B ≤ 1000000000) (ok : okR R) (ht : 1 ≤ t ∧ t ≤ 4) (hw : okW R.length w) (hl : w.length ≤ 8) :
    FnP f__law_tags_right [.ref n, .int t, .tup (R.map sD), sD w, .bl bn] m fun v u => v = .d (.bl true) ∧ Bx u n (B + 1) :=
  FnP.mk rfl (tags_body hb hB ok ht hw hl fun env u h => ⟨rfl, h⟩)
end Law
end

section
set_option Elab.async false
set_option linter.all false
set_option maxRecDepth 100000
set_option maxHeartbeats 1000000
namespace Law
open PySem PySem.Spec PyProof.Rows L2 PL
theorem Bx.up {m : Store} {n : Nat} {B B' : Int} (h : Bx m n B) (hl : B ≤ B') : Bx m n B' := by
  obtain ⟨a, b, c, d, h1, h2, h3, h4, h5, h6⟩ := h
  exact ⟨a, b, c, d, h1, h2, h3, h4, h5, by omega⟩
theorem join_map {α : Type} {l : List α} {g : α → Wd} (hz : (l.map fun a => (g a).length).sum ≤ 16777216) : gJoin (.str (st [])) [.lst (l.map fun a => sD (g a))] = some (.d (sD (l.map g).flatten)) := by
  have e1 : strsOf (l.map fun a => sD (g a)) = some (l.map fun a => st (g a)) := strsOf_map fun a _ => rfl
  show ((some (l.map fun a => sD (g a))).bind fun xs => (strsOf xs).bind fun ys => if (ys.map (·.length)).sum + ys.length * (st []).length ≤ 16777216 then some (Wv.d (.str (Txt.join (st []) ys))) else none) = _
  rw [Option.bind_some, e1, Option.bind_some]
  have e2 : ((l.map fun a => st (g a)).map (·.length)).sum + (l.map fun a => st (g a)).length * (st []).length ≤ 16777216 := by
    rw [List.map_map]
    simp
    exact hz
  rw [if_pos e2]
  have e3 : (l.map fun a => st (g a)) = (l.map g).map st := by rw [List.map_map]; rfl
  rw [e3]
  have := join_nil (l := l.map g)
  rw [c_empty] at this
  rw [this]
theorem flat_sgn (w : Wd) : (w.map fun c => ([c] : Wd)).flatten = w := by
  induction w with
  | nil => rfl
  | cons a w ih => rw [List.map_cons, List.flatten_cons, ih]; rfl
theorem sum_ones (w : Wd) : (w.map fun c => ([c] : Wd).length).sum = w.length := by
  induction w with
  | nil => rfl
  | cons a w ih => rw [List.map_cons, List.sum_cons, ih]; simp; omega
theorem join_sgn {w : Wd} (hz : w.length ≤ 1000000) : gJoin (.str (st [])) [.lst (w.map sgn)] = some (.d (sD w)) := by
  have h := join_map (l := w) (g := fun c => [c]) (by rw [sum_ones]; omega)
  rw [flat_sgn] at h
  exact h
@[simp] theorem c_abch : Str.ofString "abcdefgh" = st [97, 98, 99, 100, 101, 102, 103, 104] := by rfl
theorem abch_at {i : Int} (h0 : 0 ≤ i) (h1 : i < 8) : atI [97, 98, 99, 100, 101, 102, 103, 104] i = some (97 + i.toNat) := by
  have : i = 0 ∨ i = 1 ∨ i = 2 ∨ i = 3 ∨ i = 4 ∨ i = 5 ∨ i = 6 ∨ i = 7 := by omega
  rcases this with rfl | rfl | rfl | rfl | rfl | rfl | rfl | rfl <;> rfl
theorem word_spec {m : Store} {n letters most : Nat} {B : Int} (hb : Bx m n B) (hB : B ≤ 1000000000) (h1 : 1 ≤ letters ∧ letters ≤ 8) (h2 : most ≤ 1000) :
    FnP f__law_word [.ref n, .int letters, .int most] m fun v u => ∃ w : Wd, v = .d (sD w) ∧ w.length ≤ most ∧ okW letters w ∧ Bx u n (B + 1 + most) := by
  have hz := line
  refine FnP.mk rfl ?_
  simp [b__law_word]
  refine compC ?_
  simp
  refine callP (take_spec hb (by omega) (by omega) (by omega)) ?_
  rintro v u ⟨i, rfl, h3, h4, hb2⟩
  simp [show (-4611686018427387904 : Int) ≤ i by omega, show i < 4611686018427387904 by omega, show i.toNat ≤ sizeLine by omega]
  refine (compP (E := [.d (.ref n), .d (.int letters), .d (.int most), .no]) (fun ds acc m => ∃ w : Wd, acc = w.map sgn ∧ okW letters w ∧ w.length + ds.length = i.toNat ∧ Bx m n (B + 1 + w.length)) ?_ (PL.upTo 0 i.toNat) [] _ (by rfl) ⟨[], rfl, fun c hc => by simp at hc, by simp, by simpa using hb2⟩).mono ?_
  · rintro d ds acc m' ⟨w, rfl, hw, hl, hbw⟩
    simp only [List.length_cons] at hl
    refine ⟨_, rfl, ?_⟩
    simp
    refine callP (take_spec hbw (by omega) (by omega) (by omega)) ?_
    rintro v u' ⟨j, rfl, h5, h6, hb3⟩
    simp [abch_at h5 (by omega), st_one]
    refine ⟨rfl, w ++ [97 + j.toNat], by simp, ?_, by simp; omega, ?_⟩
    · intro c hc
      rcases List.mem_append.mp hc with hc | hc
      · exact hw c hc
      · simp at hc
        subst hc
        omega
    · have : (B + 1 + ((w ++ [97 + j.toNat]).length : Int)) = B + 1 + w.length + 1 := by simp; omega
      rw [this]
      exact hb3
  · rintro ys s ⟨m', rfl, w, hys, hw, hl, hbw⟩
    simp at hys hl
    subst hys
    simp [backS, join_sgn (show w.length ≤ 1000000 by omega)]
    exact ⟨by omega, hw, hbw.up (by omega)⟩
end Law
end

section
set_option Elab.async false
set_option linter.all false
set_option maxRecDepth 100000
set_option maxHeartbeats 1000000
namespace Law
open PySem PySem.Spec PyProof.Rows L2 PL
theorem pickT {i : Int} (h0 : 0 ≤ i) (h1 : i < 5) : ∃ N : Nat, 1 ≤ N ∧ N ≤ 4 ∧ atI [D.int 1, D.int 2, D.int 2, D.int 3, D.int 4] i = some (.int N) := by
  have : i = 0 ∨ i = 1 ∨ i = 2 ∨ i = 3 ∨ i = 4 := by omega
  rcases this with rfl | rfl | rfl | rfl | rfl
  · exact ⟨1, by omega, by omega, rfl⟩
  · exact ⟨2, by omega, by omega, rfl⟩
  · exact ⟨2, by omega, by omega, rfl⟩
  · exact ⟨3, by omega, by omega, rfl⟩
  · exact ⟨4, by omega, by omega, rfl⟩
theorem pickL {i : Int} (h0 : 0 ≤ i) (h1 : i < 4) : ∃ N : Nat, N ≤ 8 ∧ atI [D.int 2, D.int 3, D.int 4, D.int 8] i = some (.int N) := by
  have : i = 0 ∨ i = 1 ∨ i = 2 ∨ i = 3 := by omega
  rcases this with rfl | rfl | rfl | rfl
  · exact ⟨2, by omega, rfl⟩
  · exact ⟨3, by omega, rfl⟩
  · exact ⟨4, by omega, rfl⟩
  · exact ⟨8, by omega, rfl⟩
theorem okR.take1 {R : List Wd} (ok : okR R) (k : Nat) : okR (R.map (·.take k)) := by
  refine ⟨by simp [ok.l], by simp [ok.u], fun r hr => ?_, fun r hr => ?_⟩
  · obtain ⟨s, hs, rfl⟩ := List.mem_map.mp hr
    rw [List.length_map]
    exact fun c hc => ok.w s hs c (List.mem_of_mem_take hc)
  · obtain ⟨s, hs, rfl⟩ := List.mem_map.mp hr
    have := ok.z s hs
    rw [List.length_take]
    omega
theorem drawn_spec {m : Store} {n : Nat} {B : Int} (hb : Bx m n B) (hB : B ≤ 900000000) :
    FnP f__law_drawn [.ref n] m fun v u => ∃ (t : Nat) (R : List Wd) (w : Wd), v = .d (.tup [.int t, .tup (R.map sD), sD w]) ∧ (1 ≤ t ∧ t ≤ 4) ∧ okR R ∧ okW R.length w ∧ w.length ≤ 8 ∧ Bx u n (B + 100) := by
  have hz := line
  refine FnP.mk rfl ?_
  simp [b__law_drawn]
  refine callP (take_spec (many := 6) hb (by omega) (by decide) (by decide)) ?_
  rintro v u ⟨a, rfl, ha0, ha1, hb⟩
  simp
  refine callP (take_spec (many := 5) hb (by omega) (by decide) (by decide)) ?_
  rintro v u ⟨b, rfl, hb0, hb1, hb⟩
  obtain ⟨t, ht1, ht2, et⟩ := pickT hb0 hb1
  simp [et]
  refine callP (take_spec (many := 4) hb (by omega) (by decide) (by decide)) ?_
  rintro v u ⟨c, rfl, hc0, hc1, hb⟩
  obtain ⟨l, hl, el⟩ := pickL hc0 hc1
  simp [el]
  refine compC ?_
  obtain ⟨A, hA⟩ : ∃ A : Nat, 1 + a = A := ⟨(1 + a).toNat, by omega⟩
  rw [hA]
  have hA1 : 1 ≤ A ∧ A ≤ 6 := by omega
  simp [show (-4611686018427387904 : Int) ≤ A by omega, show (A : Int) < 4611686018427387904 by omega, show A ≤ sizeLine by omega]
  refine (compP (E := [.d (.ref n), .d (.int A), .d (.int t), .d (.int l), .no, .no, .no]) (fun ds acc m => ∃ R : List Wd, acc = R.map sD ∧ (∀ r ∈ R, okW A r ∧ r.length ≤ 8) ∧ R.length + ds.length = A ∧ Bx m n (B + 1 + 1 + 1 + 9 * R.length)) ?_ (PL.upTo 0 A) [] _ (by rfl) ⟨[], rfl, fun c hc => by simp at hc, by simp, by simpa using hb⟩).mono ?_
  · rintro d ds acc m' ⟨R, rfl, hR, hlR, hbR⟩
    simp only [List.length_cons] at hlR
    refine ⟨_, rfl, ?_⟩
    simp
    refine callP (word_spec (letters := A) (most := l) hbR (by omega) (by omega) (by omega)) ?_
    rintro v u' ⟨r, rfl, hr1, hr2, hb3⟩
    simp
    refine ⟨rfl, R ++ [r], by simp, ?_, by simp; omega, ?_⟩
    · intro x hx
      rcases List.mem_append.mp hx with hx | hx
      · exact hR x hx
      · simp at hx
        subst hx
        exact ⟨hr2, by omega⟩
    · exact hb3.up (by simp; omega)
  · rintro ys s ⟨m', rfl, R, hys, hR, hlR, hbR⟩
    simp at hys hlR
    subst hys
    simp [backS]
    have ok : okR R := ⟨by omega, by omega, fun r hr => by rw [hlR]; exact (hR r hr).1, fun r hr => (hR r hr).2⟩
    refine callP (take_spec (many := 3) hbR (by omega) (by decide) (by decide)) ?_
    rintro v u' ⟨g, rfl, hg0, hg1, hb4⟩
    simp
    by_cases c0 : g = 0
    · simp [c0]
      refine compC ?_
      simp
      refine ⟨by omega, (compM (E := [.d (.ref n), .d (.int A), .d (.int t), .d (.int l), .d (.tup (R.map sD)), .no, .no]) (m := u') (h := fun d => match d with
        | .str s => .str (st (s.cps.toList.take 1))
        | d => d) (by rfl) ?_).mono ?_⟩
      · intro d hd
        obtain ⟨r, hr, rfl⟩ := List.mem_map.mp hd
        refine ⟨_, rfl, ?_⟩
        have e1 : cutS (st r) none (some 1) = st (r.take 1) := by rw [cutS_st, cut_upto (by decide)]; rfl
        simp [-cutS_st, e1, show r.length ≤ sizeLine by have := ok.z r hr; omega]
        rfl
      · rintro ys s ⟨rfl, rfl⟩
        have e2 : (R.map sD).map (fun d => match d with
          | .str s => D.str (st (s.cps.toList.take 1))
          | d => d) = (R.map (·.take 1)).map sD := by
          rw [List.map_map, List.map_map]
          apply List.map_congr_left
          intro r hr
          simp
        rw [e2]
        have ok2 := ok.take1 1
        have hl2 : (R.map (·.take 1)).length = A := by simp [hlR]
        revert ok2 hl2
        generalize R.map (·.take 1) = R2
        intro ok2 hl2
        simp [backS]
        refine callP (word_spec (letters := A) (most := 8) hb4 (by omega) (by omega) (by omega)) ?_
        rintro v u2 ⟨w, rfl, hw1, hw2, hb5⟩
        simp
        exact ⟨t, R2, w, ⟨rfl, rfl, rfl⟩, ⟨ht1, ht2⟩, ok2, by rw [hl2]; exact hw2, by omega, hb5.up (by omega)⟩
    · simp [c0]
      refine callP (word_spec (letters := A) (most := 8) hb4 (by omega) (by omega) (by omega)) ?_
      rintro v u2 ⟨w, rfl, hw1, hw2, hb5⟩
      simp
      exact ⟨t, R, w, ⟨rfl, rfl, rfl⟩, ⟨ht1, ht2⟩, ok, by rw [hlR]; exact hw2, by omega, hb5.up (by omega)⟩
end Law
end

section
set_option Elab.async false
set_option linter.all false
set_option maxRecDepth 100000
set_option maxHeartbeats 1000000
namespace Law
open PySem PySem.Spec PyProof.Rows L2 PL
/-! ### cyclic systems -/
def cstep (S : List Wd) (i : Nat) : Wd → Nat × Wd
  | [] => (i, [])
  | a :: w => ((i + 1) % S.length, w ++ if a = 49 then S.getD i [] else [])
def lastC (f : List (Nat × Wd)) : Nat × Wd := f.getLastD (0, [])
def cyGo (S : List Wd) : Nat → List (Nat × Wd) → List (Nat × Wd) × How
  | 0, f => (f, if (lastC f).2 = [] then .h else .r)
  | n + 1, f => if (lastC f).2 = [] then (f, .h) else
    let q := cstep S (lastC f).1 (lastC f).2
    if q ∈ f then (f ++ [q], .a) else cyGo S n (f ++ [q])
def cyD (res : List (Nat × Wd) × How) (N : Nat) : D := .tup [.str (hS res.2), .int (match res.2 with
  | .r => (N : Int)
  | _ => ((res.1.length - 1 : Nat) : Int)), .int ((lastC res.1).1 : Nat), sD (lastC res.1).2]
structure okS (S : List Wd) : Prop where
  l : 1 ≤ S.length
  u : S.length ≤ 12
  w : ∀ s ∈ S, (∀ c ∈ s, c = 48 ∨ c = 49) ∧ s.length ≤ 48
abbrev okB (w : Wd) : Prop := ∀ c ∈ w, c = 48 ∨ c = 49
theorem okS.at_ {S : List Wd} (ok : okS S) (i : Nat) : okB (S.getD i []) ∧ (S.getD i []).length ≤ 48 := by
  rw [List.getD_eq_getElem?_getD]
  cases h : S[i]? with
  | none => exact ⟨fun c hc => by simp at hc, by simp⟩
  | some r => exact ok.w r (List.mem_of_getElem? h)
theorem cstep_ok {S : List Wd} (ok : okS S) {i : Nat} {w : Wd} (hw : okB w) (hi : i < S.length) : okB (cstep S i w).2 ∧ (cstep S i w).2.length ≤ w.length + 48 ∧ (cstep S i w).1 < S.length := by
  cases w with
  | nil => exact ⟨hw, by simp [cstep], hi⟩
  | cons a w =>
    have hs := ok.at_ i
    refine ⟨fun c hc => ?_, ?_, Nat.mod_lt _ (by have := ok.l; omega)⟩
    · rcases List.mem_append.mp hc with hc | hc
      · exact hw c (List.mem_cons_of_mem _ hc)
      · by_cases e : a = 49
        · rw [if_pos e] at hc; exact hs.1 c hc
        · rw [if_neg e] at hc; simp at hc
    · show (w ++ if a = 49 then S.getD i [] else []).length ≤ _
      rw [List.length_append]
      by_cases e : a = 49
      · rw [if_pos e]; have := hs.2; simp only [List.length_cons]; omega
      · rw [if_neg e]; simp; omega
structure okC (S : List Wd) (b : Nat) (f : List (Nat × Wd)) : Prop where
  ne : f ≠ []
  w : ∀ u ∈ f, okB u.2 ∧ u.2.length ≤ b + 48 * f.length ∧ u.1 < S.length
  l : f.length ≤ 1000
theorem lastC_mem {f : List (Nat × Wd)} (h : f ≠ []) : lastC f ∈ f := by
  unfold lastC
  rw [List.getLastD_eq_getLast?, List.getLast?_eq_some_getLast h]
  exact List.getLast_mem h
@[simp] theorem lastC_snoc {f : List (Nat × Wd)} {a : Nat × Wd} : lastC (f ++ [a]) = a := by unfold lastC; simp
theorem okC.snoc {S : List Wd} {b : Nat} {f : List (Nat × Wd)} (ok : okS S) (h : okC S b f) (hl : f.length < 1000) : okC S b (f ++ [cstep S (lastC f).1 (lastC f).2]) := by
  have hL := h.w _ (lastC_mem h.ne)
  have hn := cstep_ok ok hL.1 hL.2.2
  refine ⟨by simp, fun u hu => ?_, by simp; omega⟩
  rw [List.length_append, List.length_singleton]
  rcases List.mem_append.mp hu with hu | hu
  · have := h.w u hu
    exact ⟨this.1, by omega, this.2.2⟩
  · simp at hu
    subst hu
    exact ⟨hn.1, by omega, hn.2.2⟩
theorem find_key {α κ : Type} [DecidableEq κ] [DecidableEq α] (key : α → κ) (hk : ∀ a b, key a = key b → a = b) (v : α → D) (a : α) : ∀ f : List α, (findK (key a) (f.map key) (f.map v)).isSome = decide (a ∈ f)
  | [] => by simp [findK]
  | b :: f => by
    have ih := find_key key hk v a f
    unfold findK at ih ⊢
    rw [List.map_cons, List.map_cons, List.zip_cons_cons, List.find?_cons]
    by_cases c : b = a
    · subst c
      simp
    · have c2 : decide ((key b, v b).1 = key a) = false := decide_eq_false fun h => c (hk _ _ h)
      rw [c2]
      dsimp only
      rw [ih]
      have : (a ∈ b :: f) ↔ a ∈ f := by simp [Ne.symm c]
      simp [this]
theorem put_key {α κ : Type} [DecidableEq κ] (key : α → κ) (hk : ∀ a b, key a = key b → a = b) (v : α → D) {a : α} {f : List α} (h : a ∉ f) : putKV (f.map fun x => (key x, v x)) (key a) (v a) = (f ++ [a]).map fun x => (key x, v x) := by
  unfold putKV
  rw [if_neg]
  · simp
  · rw [List.any_eq_true]
    rintro ⟨p, hp, e⟩
    obtain ⟨b, hb, rfl⟩ := List.mem_map.mp hp
    have := hk _ _ (of_decide_eq_true e)
    subst this
    exact h hb
def kC (p : Nat × Wd) : List Key := [.inl (p.1 : Int), .inr (st p.2)]
def kL (p : Nat × Wd) : List Key := [.inr (st p.2), .inl (p.1 : Int)]
theorem kC_inj : ∀ a b, kC a = kC b → a = b := by
  rintro ⟨i, u⟩ ⟨j, v⟩ h
  simp [kC] at h
  simp [h]
  omega
theorem kL_inj : ∀ a b, kL a = kL b → a = b := by
  rintro ⟨i, u⟩ ⟨j, v⟩ h
  simp [kL] at h
  simp [h]
  omega
theorem fk_C {f : List (Nat × Wd)} {i : Nat} {w : Wd} : (findK ([.inl (i : Int), .inr (st w)] : List Key) (f.map ((fun x => x.1) ∘ fun p => (kC p, D.bl true))) (f.map ((fun x => x.2) ∘ fun p => (kC p, D.bl true)))).isSome = decide ((i, w) ∈ f) := Bool.eq_iff_iff.mpr ((Bool.eq_iff_iff.mp (find_key kC kC_inj (fun _ => .bl true) (i, w) f)).trans (by simp only [decide_eq_true_iff]))
theorem fk_L {f : List (Nat × Wd)} {i : Nat} {w : Wd} : (findK ([.inr (st w), .inl (i : Int)] : List Key) (f.map ((fun x => x.1) ∘ fun p => (kL p, D.bl true))) (f.map ((fun x => x.2) ∘ fun p => (kL p, D.bl true)))).isSome = decide ((i, w) ∈ f) := Bool.eq_iff_iff.mpr ((Bool.eq_iff_iff.mp (find_key kL kL_inj (fun _ => .bl true) (i, w) f)).trans (by simp only [decide_eq_true_iff]))
theorem pk_C {f : List (Nat × Wd)} {i : Nat} {w : Wd} (h : (i, w) ∉ f) : putKV (f.map fun p => (kC p, D.bl true)) ([.inl (i : Int), .inr (st w)] : List Key) (.bl true) = (f ++ [(i, w)]).map fun p => (kC p, D.bl true) := put_key kC kC_inj (fun _ => .bl true) h
theorem pk_L {f : List (Nat × Wd)} {i : Nat} {w : Wd} (h : (i, w) ∉ f) : putKV (f.map fun p => (kL p, D.bl true)) ([.inr (st w), .inl (i : Int)] : List Key) (.bl true) = (f ++ [(i, w)]).map fun p => (kL p, D.bl true) := put_key kL kL_inj (fun _ => .bl true) h
@[simp] theorem tk_C {i : Int} {s : Str} : tkeyOf (.tup [.int i, .str s]) = some [.inl i, .inr s] := rfl
@[simp] theorem tk_L {i : Int} {s : Str} : tkeyOf (.tup [.str s, .int i]) = some [.inr s, .inl i] := rfl
@[simp] theorem c_01 : Str.ofString "01" = st [48, 49] := by rfl
@[simp] theorem c_1 : Str.ofString "1" = st [49] := by rfl
@[simp] theorem c_0 : Str.ofString "0" = st [48] := by rfl
theorem check_signs_spec {w : Wd} (hw : okB w) (hl : w.length ≤ 1000) : pure' f_check_signs [sD w] .non := fun m => by
  have hz := line
  refine FnP.mk rfl ?_
  simp [b_check_signs]
  refine callV (is_word_of_spec (by omega) (fun c hc => by have := hw c hc; simp; omega) (by omega)) ?_
  simp
theorem is_system_cyclic_spec {S : List Wd} (ok : okS S) : pure' f_is_system_cyclic [.tup (S.map sD)] (.bl true) := fun m => by
  have hz := line
  have h1 := ok.l
  have h2 := ok.u
  refine FnP.mk rfl ?_
  simp [b_is_system_cyclic, show (1 : Int) ≤ S.length by omega, show (S.length : Int) ≤ 12 by omega]
  refine compC ?_
  simp
  refine ⟨by omega, (compM (E := [.d (.tup (S.map sD)), .no]) (m := m) (h := fun _ => .bl true) (by rfl) ?_).mono ?_⟩
  · intro d hd
    obtain ⟨r, hr, rfl⟩ := List.mem_map.mp hd
    have := ok.w r hr
    refine ⟨_, rfl, ?_⟩
    simp
    refine callV (is_word_of_spec (by omega) (fun c hc => by have := this.1 c hc; simp; omega) (by omega)) ?_
    simp
    rfl
  · rintro ys s ⟨rfl, rfl⟩
    simp [backS]
theorem cyclic_run_spec {S : List Wd} {w : Wd} {N : Nat} (ok : okS S) (hw : okB w) (hl : w.length ≤ 1000) (hN : N ≤ 500) : pure' f_cyclic_run [.tup (S.map sD), sD w, .int N] (cyD (cyGo S N [(0, w)]) N) := fun m => by
  have hz := line
  have h1 := ok.l
  obtain ⟨res, hres⟩ : ∃ r, r = cyGo S N [(0, w)] := ⟨_, rfl⟩
  rw [← hres]
  refine FnP.mk rfl ?_
  simp [b_cyclic_run]
  refine callV (is_system_cyclic_spec ok) ?_
  simp
  refine callV (check_signs_spec hw hl) ?_
  simp
  refine callV (check_steps_spec (by omega) (by omega)) ?_
  simp [tkeyOf, keysOf, show (-4611686018427387904 : Int) ≤ N + 1 by omega, show (N : Int) + 1 < 4611686018427387904 by omega]
  refine forP (fun ds s => ∃ j f x5, ds = (List.range' j (N + 1 - j)).map (fun k : Nat => D.int (k : Int)) ∧ j ≤ N ∧ s = ⟨[.d (.tup (S.map sD)), .d (sD (lastC f).2), .d (.int N), .d (.int (lastC f).1), .own (.dT (f.map fun p => (kC p, .bl true))), x5], m⟩ ∧ okC S 1000 f ∧ f.length = j + 1 ∧ cyGo S (N - j) f = res) ?_ ?_ _ _ ?_
  · rintro d ds _ ⟨j, f, x5, hds, hj, rfl, hf, hfl, hg⟩
    have hL := hf.w _ (lastC_mem hf.ne)
    rw [show N + 1 - j = (N - j) + 1 by omega, List.range'_succ, List.map_cons] at hds
    injection hds with hd hds
    subst hd
    refine ⟨_, rfl, ?_⟩
    have hsn := fun h => hf.snoc (b := 1000) ok h
    obtain ⟨q, hq⟩ : ∃ q, lastC f = q := ⟨_, rfl⟩
    rw [hq] at hL hsn
    obtain ⟨i, u⟩ := q
    dsimp only at hL hsn
    cases u with
    | nil =>
      have : res = (f, .h) := by
        rw [← hg]
        cases h : N - j with
        | zero => unfold cyGo; rw [hq]; rfl
        | succ k => unfold cyGo; rw [hq]; rfl
      subst this
      simp [hq, cyD, hfl]
    | cons a u =>
      have hgt := ok.at_ i
      have e0 : atI (S.map sD) (i : Int) = some (sD (S.getD i [])) := by
        rw [atI_k, List.getElem?_map, List.getElem?_eq_getElem hL.2.2, List.getD_eq_getElem?_getD, List.getElem?_eq_getElem hL.2.2]
        rfl
      have e1 : cutS (st (a :: u)) (some 1) none = st u := by rw [cutS_st, cut_from (by decide)]; rfl
      have e5 : ((i : Int) + 1) % (S.length : Int) = (((i + 1) % S.length : Nat) : Int) := by rw [Int.natCast_emod]; rfl
      have hul := hL.2.1
      simp only [List.length_cons] at hul
      by_cases c : j = N
      · subst c
        have : res = (f, .r) := by
          rw [← hg, Nat.sub_self]
          unfold cyGo
          rw [hq]
          rfl
        subst this
        simp [hq, cyD, hfl]
      · have c' : ¬ ((j : Int) = N) := by omega
        rw [show N - j = (N - (j + 1)) + 1 by omega] at hg
        unfold cyGo at hg
        rw [hq] at hg
        simp only [List.cons_ne_nil, reduceCtorEq, if_false] at hg
        have hf2 := hsn (by omega)
        have e6 : CModB ((i : Int) + 1) S.length = true := by unfold CModB; simp; omega
        obtain ⟨I', hI⟩ : ∃ I', (i + 1) % S.length = I' := ⟨_, rfl⟩
        rw [hI] at e5
        have fin : ∀ W : Wd, cstep S i (a :: u) = (I', W) → ((I', W) ∈ f → .tup [.str "again", .int ((j : Int) + 1), .int (I' : Int), sD W] = cyD res N) ∧ ((I', W) ∉ f → okC S 1000 (f ++ [(I', W)]) ∧ cyGo S (N - (j + 1)) (f ++ [(I', W)]) = res) := by
          intro W hW
          rw [hW] at hg hf2
          refine ⟨fun h => ?_, fun h => ?_⟩
          · rw [if_pos h] at hg
            subst hg
            simp [cyD, hfl]
          · rw [if_neg h] at hg
            exact ⟨hf2, hg⟩
        by_cases a49 : a = 49
        · subst a49
          have hW : cstep S i (49 :: u) = (I', u ++ S.getD i []) := by simp [cstep, hI]
          obtain ⟨f1, f2⟩ := fin _ hW
          have hgl := hgt.2
          have e7 : u.length + (S.getD i []).length ≤ sizeLine := by omega
          revert f1 f2
          generalize hWg : u ++ S.getD i [] = W
          intro f1 f2
          rw [List.getD_eq_getElem?_getD] at hWg e7 e0
          simp [hq, c', -cutS_st, e1, st_one, show u.length + 1 ≤ sizeLine by omega, e0, e5, e6, hWg, e7, fk_C]
          by_cases d : (I', W) ∈ f
          · simp [d, f1 d]
          · obtain ⟨g1, g2⟩ := f2 d
            simp [d, show f.length < sizeLine by omega]
            refine ⟨j + 1, by rw [hds]; congr 2; omega, by omega, f ++ [(I', W)], ⟨?_, ?_⟩, g1, by simp [hfl], g2⟩
            · simp
            · exact ⟨by simp, pk_C d⟩
        · have hW : cstep S i (a :: u) = (I', u) := by simp [cstep, hI, a49]
          obtain ⟨f1, f2⟩ := fin _ hW
          simp [hq, c', -cutS_st, e1, st_one, show u.length + 1 ≤ sizeLine by omega, show u.length ≤ sizeLine by omega, e0, e5, e6, a49, fk_C]
          by_cases d : (I', u) ∈ f
          · simp [d, f1 d]
          · obtain ⟨g1, g2⟩ := f2 d
            simp [d, show f.length < sizeLine by omega]
            refine ⟨j + 1, by rw [hds]; congr 2; omega, by omega, f ++ [(I', u)], ⟨?_, ?_⟩, g1, by simp [hfl], g2⟩
            · simp
            · exact ⟨by simp, pk_C d⟩
  · rintro _ ⟨j, f, x5, hds, hj, rfl, hf, hfl, hg⟩
    rw [show N + 1 - j = (N - j) + 1 by omega, List.range'_succ, List.map_cons] at hds
    cases hds
  · refine ⟨0, [(0, w)], .no, ?_, by omega, ?_, ⟨by simp, by simp; exact ⟨hw, by omega, by omega⟩, by simp⟩, rfl, hres.symm⟩
    · simp [PL.upTo, List.range_eq_range', show ((N : Int) + 1).toNat = N + 1 by omega]
    · rfl
theorem law_cyclic_spec {S : List Wd} {w : Wd} {N : Nat} (ok : okS S) (hw : okB w) (hl : w.length ≤ 1000) (hN : N ≤ 500) : pure' f__law_cyclic [.tup (S.map sD), sD w, .int N] (cyD (cyGo S N [(0, w)]) N) := fun m => by
  have hz := line
  have h1 := ok.l
  obtain ⟨res, hres⟩ : ∃ r, r = cyGo S N [(0, w)] := ⟨_, rfl⟩
  rw [← hres]
  refine FnP.mk rfl ?_
  simp [b__law_cyclic, tkeyOf, keysOf, show (-4611686018427387904 : Int) ≤ N by omega, show (N : Int) < 4611686018427387904 by omega]
  refine forP (fun ds s => ∃ j f x5, ds = (List.range' j (N - j)).map (fun k : Nat => D.int (k : Int)) ∧ j ≤ N ∧ s = ⟨[.d (.tup (S.map sD)), .d (sD (lastC f).2), .d (.int N), .d (.int (lastC f).1), .own (.dT (f.map fun p => (kL p, .bl true))), x5], m⟩ ∧ okC S 1000 f ∧ f.length = j + 1 ∧ cyGo S (N - j) f = res) ?_ ?_ _ _ ?_
  · rintro d ds _ ⟨j, f, x5, hds, hj, rfl, hf, hfl, hg⟩
    have hL := hf.w _ (lastC_mem hf.ne)
    have hjN : j < N := by
      rcases Nat.lt_or_ge j N with h | h
      · exact h
      · rw [show N - j = 0 by omega] at hds
        cases hds
    rw [show N - j = (N - (j + 1)) + 1 by omega, List.range'_succ, List.map_cons] at hds
    injection hds with hd hds
    subst hd
    refine ⟨_, rfl, ?_⟩
    have hsn := fun h => hf.snoc (b := 1000) ok h
    obtain ⟨q, hq⟩ : ∃ q, lastC f = q := ⟨_, rfl⟩
    rw [hq] at hL hsn
    obtain ⟨i, u⟩ := q
    dsimp only at hL hsn
    cases u with
    | nil =>
      have : res = (f, .h) := by
        rw [← hg]
        cases h : N - j with
        | zero => unfold cyGo; rw [hq]; rfl
        | succ k => unfold cyGo; rw [hq]; rfl
      subst this
      simp [hq, cyD, hfl]
    | cons a u =>
      have hgt := ok.at_ i
      have e0 : atI (S.map sD) (i : Int) = some (sD (S.getD i [])) := by
        rw [atI_k, List.getElem?_map, List.getElem?_eq_getElem hL.2.2, List.getD_eq_getElem?_getD, List.getElem?_eq_getElem hL.2.2]
        rfl
      have e1 : cutS (st (a :: u)) (some 1) none = st u := by rw [cutS_st, cut_from (by decide)]; rfl
      have e5 : ((i : Int) + 1) % (S.length : Int) = (((i + 1) % S.length : Nat) : Int) := by rw [Int.natCast_emod]; rfl
      have hul := hL.2.1
      simp only [List.length_cons] at hul
      rw [show N - j = (N - (j + 1)) + 1 by omega] at hg
      unfold cyGo at hg
      rw [hq] at hg
      simp only [List.cons_ne_nil, reduceCtorEq, if_false] at hg
      have hf2 := hsn (by omega)
      have e6 : CModB ((i : Int) + 1) S.length = true := by unfold CModB; simp; omega
      obtain ⟨I', hI⟩ : ∃ I', (i + 1) % S.length = I' := ⟨_, rfl⟩
      rw [hI] at e5
      have fin : ∀ W : Wd, cstep S i (a :: u) = (I', W) → ((I', W) ∈ f → .tup [.str "again", .int ((j : Int) + 1), .int (I' : Int), sD W] = cyD res N) ∧ ((I', W) ∉ f → okC S 1000 (f ++ [(I', W)]) ∧ cyGo S (N - (j + 1)) (f ++ [(I', W)]) = res) := by
        intro W hW
        rw [hW] at hg hf2
        refine ⟨fun h => ?_, fun h => ?_⟩
        · rw [if_pos h] at hg
          subst hg
          simp [cyD, hfl]
        · rw [if_neg h] at hg
          exact ⟨hf2, hg⟩
      by_cases a49 : a = 49
      · subst a49
        have hW : cstep S i (49 :: u) = (I', u ++ S.getD i []) := by simp [cstep, hI]
        obtain ⟨f1, f2⟩ := fin _ hW
        have hgl := hgt.2
        have e7 : u.length + (S.getD i []).length ≤ sizeLine := by omega
        revert f1 f2
        generalize hWg : u ++ S.getD i [] = W
        intro f1 f2
        rw [List.getD_eq_getElem?_getD] at hWg e7 e0
        simp [hq, -cutS_st, e1, st_one, show u.length + 1 ≤ sizeLine by omega, e0, e5, e6, hWg, e7, fk_L]
        by_cases d : (I', W) ∈ f
        · simp [d, f1 d]
        · obtain ⟨g1, g2⟩ := f2 d
          simp [d, show f.length < sizeLine by omega]
          refine ⟨j + 1, by rw [hds], by omega, f ++ [(I', W)], ⟨?_, ?_⟩, g1, by simp [hfl], g2⟩
          · simp
          · exact ⟨by simp, pk_L d⟩
      · have hW : cstep S i (a :: u) = (I', u) := by simp [cstep, hI, a49]
        obtain ⟨f1, f2⟩ := fin _ hW
        simp [hq, -cutS_st, e1, st_one, show u.length + 1 ≤ sizeLine by omega, show u.length ≤ sizeLine by omega, e0, e5, e6, a49, fk_L]
        by_cases d : (I', u) ∈ f
        · simp [d, f1 d]
        · obtain ⟨g1, g2⟩ := f2 d
          simp [d, show f.length < sizeLine by omega]
          refine ⟨j + 1, by rw [hds], by omega, f ++ [(I', u)], ⟨?_, ?_⟩, g1, by simp [hfl], g2⟩
          · simp
          · exact ⟨by simp, pk_L d⟩
  · rintro _ ⟨j, f, x5, hds, hj, rfl, hf, hfl, hg⟩
    have hjN : j = N := by
      have := congrArg List.length hds
      simp at this
      omega
    subst hjN
    rw [Nat.sub_self] at hg
    unfold cyGo at hg
    obtain ⟨q, hq⟩ : ∃ q, lastC f = q := ⟨_, rfl⟩
    obtain ⟨i, u⟩ := q
    rw [hq] at hg
    cases u with
    | nil =>
      have : res = (f, .h) := by rw [← hg]; rfl
      subst this
      simp [hq, cyD, hfl]
    | cons a u =>
      have : res = (f, .r) := by rw [← hg]; rfl
      subst this
      simp [hq, cyD, hfl]
  · refine ⟨0, [(0, w)], .no, ?_, by omega, ?_, ⟨by simp, by simp; exact ⟨hw, by omega, by omega⟩, by simp⟩, rfl, hres.symm⟩
    · simp [PL.upTo, List.range_eq_range']
    · rfl
end Law
end

section
set_option Elab.async false
set_option linter.all false
set_option maxRecDepth 100000
set_option maxHeartbeats 1000000
namespace Law
open PySem PySem.Spec PyProof.Rows L2 PL
/-! ### letters as signs -/
def blk (n : Nat) (c : Nat) : Wd := (List.range n).map fun k => if 97 + k = c then 49 else 48
def sg (n : Nat) (w : Wd) : Wd := (w.map (blk n)).flatten
@[simp] theorem blk_len {n c : Nat} : (blk n c).length = n := by simp [blk]
theorem blk_eq {n c : Nat} (h : 97 ≤ c ∧ c < 97 + n) : List.replicate (c - 97) 48 ++ [49] ++ List.replicate (n - 1 - (c - 97)) 48 = blk n c := by
  apply List.ext_getElem
  · simp; omega
  · intro i h1 h2
    simp [blk] at h2 ⊢
    by_cases a : i < c - 97
    · rw [List.getElem_append_left (by simpa using a)]
      simp
      omega
    · rw [List.getElem_append_right (by simp; omega)]
      by_cases b : i = c - 97
      · subst b
        simp
        omega
      · have : i - (c - 97) = (i - (c - 97) - 1) + 1 := by omega
        simp [List.getElem_cons, show i - (c - 97) ≠ 0 by omega]
        omega
theorem blk_B {n c : Nat} : okB (blk n c) := by
  intro x hx
  obtain ⟨k, _, rfl⟩ := List.mem_map.mp hx
  by_cases h : 97 + k = c
  · simp [h]
  · simp [h]
theorem sg_B {n : Nat} {w : Wd} : okB (sg n w) := by
  intro x hx
  obtain ⟨l, hl, hx⟩ := List.mem_flatten.mp hx
  obtain ⟨c, _, rfl⟩ := List.mem_map.mp hl
  exact blk_B x hx
theorem sg_len {n : Nat} {w : Wd} : (sg n w).length = n * w.length := by
  unfold sg
  induction w with
  | nil => simp
  | cons a w ih => rw [List.map_cons, List.flatten_cons, List.length_append, ih, blk_len, List.length_cons, Nat.mul_succ]; omega
theorem sg_cons {n a : Nat} {w : Wd} : sg n (a :: w) = blk n a ++ sg n w := by unfold sg; simp
theorem sg_app {n : Nat} {u w : Wd} : sg n (u ++ w) = sg n u ++ sg n w := by unfold sg; simp
theorem signs_of_spec {n : Nat} {w : Wd} (hn : 1 ≤ n ∧ n ≤ 6) (hw : okW n w) (hl : w.length ≤ 1000) : pure' f_signs_of [.int n, sD w] (sD (sg n w)) := fun m => by
  have hz := line
  refine FnP.mk rfl ?_
  simp [b_signs_of]
  refine forP (fun ds s => ∃ u r x3 x4, w = u ++ r ∧ ds = r.map sgn ∧ s = ⟨[.d (.int n), .d (sD w), .d (sD (sg n u)), x3, x4], m⟩) ?_ ?_ _ _ ⟨[], w, .no, .no, rfl, rfl, rfl⟩
  · rintro d ds _ ⟨u, r, x3, x4, hw2, hds, rfl⟩
    cases r with
    | nil => cases hds
    | cons a r =>
      rw [List.map_cons] at hds
      injection hds with hd hds
      subst hd
      have ha : 97 ≤ a ∧ a < 97 + n := hw a (by rw [hw2]; simp)
      have hul : u.length ≤ 1000 := by rw [hw2] at hl; simp at hl; omega
      have hsl : (sg n u).length ≤ 6000 := by rw [sg_len]; exact Nat.le_trans (Nat.mul_le_mul hn.2 hul) (by decide)
      have hb := blk_eq ha
      refine ⟨_, rfl, ?_⟩
      have e1 : Txt.mul (st [48]) ((a - 97 : Nat) : Int) = st (List.replicate (a - 97) 48) := by rw [mul_one' (by omega)]; simp
      have e2 : Txt.mul (st [48]) ((n : Int) - 1 - ((a - 97 : Nat) : Int)) = st (List.replicate (n - 1 - (a - 97)) 48) := by
        rw [mul_one' (by omega), show ((n : Int) - 1 - ((a - 97 : Nat) : Int)).toNat = n - 1 - (a - 97) by omega]
      simp [abc_mem (show 97 ≤ a ∧ a < 103 by omega), abc_idx (show 97 ≤ a ∧ a < 103 by omega), CYes, e1, e2]
      refine ⟨by omega, by omega, by omega, by omega, by omega, u ++ [a], r, by rw [hw2]; simp, hds, ?_⟩
      have h9 : sg n [a] = blk n a := by simp [sg]
      rw [sg_app, h9, ← hb]
      try simp
  · rintro _ ⟨u, r, x3, x4, hw2, hds, rfl⟩
    cases r with
    | nil => simp at hw2; subst hw2; simp
    | cons a r => cases hds
theorem law_signs_spec {n : Nat} {w : Wd} (hn : 1 ≤ n ∧ n ≤ 6) (hl : w.length ≤ 1000) : pure' f__law_signs [.int n, sD w] (sD (sg n w)) := fun m => by
  have hz := line
  refine FnP.mk rfl ?_
  simp [b__law_signs]
  refine compC ?_
  simp
  refine ⟨by omega, (compM (E := [.d (.int n), .d (sD w), .no, .no]) (m := m) (h := fun d => match d with
    | .str s => .str (st (blk n (s.cps.toList.headD 0)))
    | d => d) (by rfl) ?_).mono ?_⟩
  · intro d hd
    obtain ⟨c, hc, rfl⟩ := List.mem_map.mp hd
    refine ⟨_, rfl, ?_⟩
    simp
    refine compC ?_
    simp [show (-4611686018427387904 : Int) ≤ n by omega, show (n : Int) < 4611686018427387904 by omega, show n ≤ sizeLine by omega]
    refine (compM (E := [.d (.int n), .d (sD w), .no, .d (sgn c)]) (m := m) (h := fun d => match d with
      | .int k => .str (st [if 97 + k.toNat = c then 49 else 48])
      | d => d) (by rfl) ?_).mono ?_
    · intro d hd
      obtain ⟨k, hk, rfl⟩ := mem_upTo hd
      have hk6 : k < abc.length := by show k < 6; omega
      have e1 : abc[k]? = some (97 + k) := by
        have : k = 0 ∨ k = 1 ∨ k = 2 ∨ k = 3 ∨ k = 4 ∨ k = 5 := by omega
        rcases this with rfl | rfl | rfl | rfl | rfl | rfl <;> rfl
      refine ⟨_, rfl, ?_⟩
      simp [atI_k, e1, st_one]
      by_cases c0 : 97 + k = c
      · simp [c0]; rfl
      · simp [c0]; rfl
    · rintro ys s ⟨rfl, rfl⟩
      have e2 : (PL.upTo 0 n).map (fun d => match d with
        | .int k => D.str (st [if 97 + k.toNat = c then 49 else 48])
        | d => d) = (blk n c).map sgn := by
        unfold PL.upTo blk
        rw [List.map_map, List.map_map]
        apply List.map_congr_left
        intro k hk
        simp
      rw [e2]
      simp [backS, join_sgn (w := blk n c) (by simp; omega)]
      rfl
  · rintro ys s ⟨rfl, rfl⟩
    have e3 : (w.map fun c => sD [c]).map (fun d => match d with
      | .str s => D.str (st (blk n (s.cps.toList.headD 0)))
      | d => d) = w.map fun c => sD (blk n c) := by
      rw [List.map_map]
      apply List.map_congr_left
      intro c hc
      simp
    rw [e3]
    have e4 := join_map (l := w) (g := blk n) (by
      have : (w.map fun a => (blk n a).length) = w.map fun _ => n := by simp
      rw [this]
      have h2 : (w.map fun _ => n).sum = w.length * n := by
        clear hl this e3
        induction w with
        | nil => simp
        | cons a w ih => rw [List.map_cons, List.sum_cons, ih, List.length_cons, Nat.succ_mul]; omega
      rw [h2]
      exact Nat.le_trans (Nat.mul_le_mul hl hn.2) (by decide))
    simp [backS, e4]
    rfl
end Law
end

section
set_option Elab.async false
set_option linter.all false
set_option maxRecDepth 100000
set_option maxHeartbeats 1000000
namespace Law
open PySem PySem.Spec PyProof.Rows L2 PL
def cycS (R : List Wd) : List Wd := R.map (sg R.length) ++ List.replicate R.length []
theorem rep_sD {n : Nat} : (List.replicate n [D.str (PL.st [])]).flatten = (List.replicate n ([] : Wd)).map sD := by
  induction n with
  | zero => rfl
  | succ n ih => rw [List.replicate_succ, List.flatten_cons, ih, List.replicate_succ, List.map_cons]; rfl
theorem gMul_emp {n : Nat} (h : 1 ≤ n ∧ n ≤ 1000) : gMul (.tup [.str (PL.st [])]) (.int n) = some (.d (.tup ((List.replicate n ([] : Wd)).map sD))) := by
  rw [← rep_sD]
  show (if ((n : Nat) : Int) = 1 then some (Wv.d (.tup [.str (PL.st [])])) else if _ then _ else _) = _
  by_cases c : (n : Int) = 1
  · have : n = 1 := by omega
    subst this
    rfl
  · rw [if_neg c, if_pos ⟨⟨rfl, by omega, by omega⟩, by simp⟩]
    simp
theorem check_tags_spec {R : List Wd} : pure' f_check_tags [tagsD 2 R] .non := fun m => by
  refine FnP.mk rfl ?_
  simp [b_check_tags, tagsD]
theorem to_cyclic_spec {R : List Wd} (ok : okR R) : pure' f_to_cyclic [tagsD 2 R] (.tup ((cycS R).map sD)) := fun m => by
  have hz := line
  have h1 := ok.l
  have h2 := ok.u
  refine FnP.mk rfl ?_
  simp [b_to_cyclic]
  refine callV check_tags_spec ?_
  simp [tagsD]
  refine compC ?_
  simp
  refine ⟨by omega, (compM (E := [.d (tagsD 2 R), .d (.int R.length), .no]) (m := m) (h := fun d => match d with
    | .str s => sD (sg R.length s.cps.toList)
    | d => d) (by rfl) ?_).mono ?_⟩
  · intro d hd
    obtain ⟨r, hr, rfl⟩ := List.mem_map.mp hd
    refine ⟨_, rfl, ?_⟩
    simp
    refine callV (signs_of_spec (by omega) (ok.w r hr) (by have := ok.z r hr; omega)) ?_
    simp
    rfl
  · rintro ys s ⟨rfl, rfl⟩
    have e := gMul_emp (n := R.length) (by omega)
    simp [backS, e]
    refine ⟨by omega, ?_⟩
    cases R with
    | nil => simp at h1
    | cons r R => simp [cycS]
theorem cyclic_word_spec {R : List Wd} {w : Wd} (ok : okR R) (hw : okW R.length w) (hl : w.length ≤ 60) : pure' f_cyclic_word [tagsD 2 R, sD w] (sD (sg R.length w)) := fun m => by
  have hz := line
  have h1 := ok.l
  have h2 := ok.u
  refine FnP.mk rfl ?_
  simp [b_cyclic_word]
  refine callV check_tags_spec ?_
  simp
  refine callV (check_word_spec ok hw hl) ?_
  simp [tagsD]
  refine callV (signs_of_spec (by omega) hw (by omega)) ?_
  simp
end Law
end

section
set_option Elab.async false
set_option linter.all false
set_option maxRecDepth 100000
set_option maxHeartbeats 1000000
namespace Law
open PySem PySem.Spec PyProof.Rows L2 PL
/-! ### signs as letters -/
def letGo (n : Nat) : Nat → Wd → Wd → Option Wd
  | 0, _, u => some u
  | k + 1, w, u => if (w.take n).length < n ∨ (w.take n).count 49 ≠ 1 then none else letGo n k (w.drop n) (u ++ [97 + (w.take n).idxOf 49])
def letK (n : Nat) (w : Wd) : Nat := (w.length + n - 1) / n
def letD (n : Nat) (w : Wd) : Option Wd := letGo n (letK n w) w []
theorem gRng3_up {L n : Nat} (hn : 1 ≤ n ∧ n ≤ 6) (hL : L ≤ 1000) : gRng3 [.int 0, .int L, .int n] = some ((List.range ((L + n - 1) / n)).map fun k => D.int ((k * n : Nat) : Int)) := by
  have e : Builtin.Range.rangeSize 0 L n = (((L + n - 1) / n : Nat) : Int) := by
    unfold Builtin.Range.rangeSize
    rw [if_pos (show ((n : Nat) : Int) > 0 by omega)]
    have : n = 1 ∨ n = 2 ∨ n = 3 ∨ n = 4 ∨ n = 5 ∨ n = 6 := by omega
    rcases this with rfl | rfl | rfl | rfl | rfl | rfl <;> split <;> omega
  have hk : (L + n - 1) / n ≤ 1000 := by
    refine Nat.div_le_of_le_mul ?_
    have : n * 1000 ≥ n + 999 := by omega
    omega
  revert e hk
  generalize (L + n - 1) / n = q
  intro e hk
  have s : Builtin.Range.small 0 L n = true := by
    unfold Builtin.Range.small
    rw [e]
    simp only [Builtin.Range.rangeFitsLong, Bool.and_eq_true, Bool.or_eq_true, decide_eq_true_eq, beq_iff_eq]
    rw [if_pos (show ((n : Nat) : Int) > 0 by omega)]
    simp only [Bool.and_eq_true, decide_eq_true_eq]
    omega
  unfold gRng3
  dsimp only
  rw [if_pos ⟨⟨by omega, by omega, s⟩, by rw [e]; omega⟩, e]
  refine congrArg some ?_
  unfold upBy
  rw [show ((q : Nat) : Int).toNat = q by omega]
  apply List.map_congr_left
  intro k hk
  simp
theorem letK_le {n : Nat} {w : Wd} (hn : 1 ≤ n ∧ n ≤ 6) (hl : w.length ≤ 1000) : letK n w ≤ 1000 := by
  unfold letK
  refine Nat.div_le_of_le_mul ?_
  have : n * 1000 ≥ n + 999 := by omega
  omega
theorem idx6 {n : Nat} {p : Wd} (hn : n ≤ 6) (hp : p.length ≤ n) (hc : p.count 49 = 1) : 49 ∈ p ∧ p.idxOf 49 < 6 ∧ abc[p.idxOf 49]? = some (97 + p.idxOf 49) := by
  have hm : 49 ∈ p := List.count_pos_iff.mp (by omega)
  have hi := List.idxOf_lt_length_of_mem hm
  refine ⟨hm, by omega, ?_⟩
  have h6 : p.idxOf 49 < 6 := by omega
  generalize p.idxOf 49 = k at h6
  have : k = 0 ∨ k = 1 ∨ k = 2 ∨ k = 3 ∨ k = 4 ∨ k = 5 := by omega
  rcases this with rfl | rfl | rfl | rfl | rfl | rfl <;> rfl
theorem from_cyclic_spec {R : List Wd} {w : Wd} (ok : okR R) (hw : okB w) (hl : w.length ≤ 1000) : pure' f_from_cyclic_word [tagsD 2 R, sD w] (oD (letD R.length w)) := fun m => by
  have hz := line
  have h1 := ok.l
  have h2 := ok.u
  obtain ⟨res, hres⟩ : ∃ r, r = letD R.length w := ⟨_, rfl⟩
  rw [← hres]
  refine FnP.mk rfl ?_
  simp [b_from_cyclic_word]
  refine callV check_tags_spec ?_
  simp
  refine callV (check_signs_spec hw hl) ?_
  simp [tagsD, show w.length ≤ sizeLine by omega]
  rw [gRng3_up (by omega) hl]
  simp
  obtain ⟨n, hn⟩ : ∃ n, n = R.length := ⟨_, rfl⟩
  have hK := letK_le (n := n) (w := w) (by omega) hl
  refine forP (fun ds s => ∃ j u x4 x5, ds = (List.range' j (letK n w - j)).map (fun k : Nat => D.int ((k * n : Nat) : Int)) ∧ j ≤ letK n w ∧ s = ⟨[.d (tagsD 2 R), .d (sD w), .d (.int n), .d (sD u), x4, x5], m⟩ ∧ u.length = j ∧ letGo n (letK n w - j) (w.drop (j * n)) u = res) ?_ ?_ _ _ ?_
  · rintro d ds _ ⟨j, u, x4, x5, hds, hj, rfl, hu, hg⟩
    have hjN : j < letK n w := by
      rcases Nat.lt_or_ge j (letK n w) with h | h
      · exact h
      · rw [show letK n w - j = 0 by omega] at hds
        cases hds
    rw [show letK n w - j = (letK n w - (j + 1)) + 1 by omega, List.range'_succ, List.map_cons] at hds
    injection hds with hd hds
    subst hd
    refine ⟨_, rfl, ?_⟩
    rw [show letK n w - j = (letK n w - (j + 1)) + 1 by omega] at hg
    unfold letGo at hg
    rw [List.drop_drop, show j * n + n = (j + 1) * n by rw [Nat.succ_mul]] at hg
    obtain ⟨a, ha⟩ : ∃ a, a = j * n := ⟨_, rfl⟩
    rw [← ha] at hg ⊢
    have e1 : cutS (st w) (some (a : Int)) (some ((a : Int) + n)) = st ((w.drop a).take n) := by
      rw [cutS_st, cut_mid (by omega) (by omega), show ((a : Int) + n).toNat - (a : Int).toNat = n by omega, show (a : Int).toNat = a by omega]
    have hp : ((w.drop a).take n).length ≤ n := by simp; omega
    revert hg hp e1
    generalize (w.drop a).take n = p
    intro hg e1 hp
    simp [-cutS_st, e1, show w.length ≤ sizeLine by omega, show p.length ≤ sizeLine by omega]
    by_cases c1 : p.length < n
    · rw [if_pos (.inl c1)] at hg
      subst hg
      simp [c1, oD]
    · by_cases c2 : p.count 49 = 1
      · rw [if_neg (by rintro (h | h); exact c1 h; exact h c2)] at hg
        obtain ⟨i1, i2, i3⟩ := idx6 (by omega) hp c2
        simp [c1, c2, i1, atI_k, i3, st_one, show u.length + 1 ≤ sizeLine by omega]
        exact ⟨j + 1, by rw [hds]; simp, by omega, by omega, hg⟩
      · rw [if_pos (.inr c2)] at hg
        subst hg
        simp [c1, show ¬ ((p.count 49 : Int) = 1) by omega, oD]
  · rintro _ ⟨j, u, x4, x5, hds, hj, rfl, hu, hg⟩
    have hjN : j = letK n w := by
      have := congrArg List.length hds
      simp at this
      omega
    subst hjN
    rw [Nat.sub_self] at hg
    unfold letGo at hg
    subst hg
    simp [oD]
  · refine ⟨0, [], .no, .no, ?_, by omega, ?_, rfl, ?_⟩
    · simp [List.range_eq_range', letK, hn]
    · simp [hn, tagsD]
    · simp [hres, hn, letD]
theorem letGo_bad {n : Nat} (hn : 1 ≤ n) : ∀ {k : Nat} {w u : Wd}, w.length % n ≠ 0 → w.length < k * n → letGo n k w u = none
  | 0, w, u, h, h2 => by omega
  | k + 1, w, u, h, h2 => by
    unfold letGo
    by_cases c : (w.take n).length < n ∨ (w.take n).count 49 ≠ 1
    · rw [if_pos c]
    · rw [if_neg c]
      have c1 : ¬ (w.take n).length < n := fun h => c (.inl h)
      rw [List.length_take] at c1
      have hl : n ≤ w.length := by omega
      refine letGo_bad hn ?_ ?_
      · rw [List.length_drop]
        intro z
        exact h (by rw [show w.length = (w.length - n) + n by omega, Nat.add_mod_right]; exact z)
      · rw [List.length_drop]
        rw [Nat.succ_mul] at h2
        omega
theorem law_letters_spec {n : Nat} {w : Wd} (hn : 1 ≤ n ∧ n ≤ 6) (hw : okB w) (hl : w.length ≤ 1000) : pure' f__law_letters [.int n, sD w] (oD (letD n w)) := fun m => by
  have hz := line
  obtain ⟨res, hres⟩ : ∃ r, r = letD n w := ⟨_, rfl⟩
  rw [← hres]
  refine FnP.mk rfl ?_
  have e6 : CModB w.length n = true := by unfold CModB; simp; omega
  obtain ⟨r, hr⟩ : ∃ r, r = w.length % n := ⟨_, rfl⟩
  have e5 : (w.length : Int) % (n : Int) = (r : Int) := by rw [hr, Int.natCast_emod]
  simp only [b__law_letters]
  simp [show w.length ≤ sizeLine by omega, e6, e5]
  by_cases c : r = 0
  · simp [c]
    rw [hr] at c
    rw [gRng3_up hn hl]
    simp
    have hK := letK_le (n := n) (w := w) (by omega) hl
    have full : letK n w * n = w.length := by
      unfold letK
      have h2 : w.length = n * (w.length / n) := by have := Nat.div_add_mod w.length n; omega
      have h3 : (w.length + n - 1) / n = w.length / n := by
        rw [Nat.div_eq_iff (by omega)]
        constructor
        · rw [Nat.mul_comm]; omega
        · rw [Nat.mul_comm]; omega
      rw [h3, Nat.mul_comm]
      exact h2.symm
    refine forP (fun ds s => ∃ j u x3 x4 x5, ds = (List.range' j (letK n w - j)).map (fun k : Nat => D.int ((k * n : Nat) : Int)) ∧ j ≤ letK n w ∧ x5.isOwn = false ∧ s = ⟨[.d (.int n), .d (sD w), .d (sD u), x3, x4, x5], m⟩ ∧ u.length = j ∧ letGo n (letK n w - j) (w.drop (j * n)) u = res) ?_ ?_ _ _ ?_
    · rintro d ds _ ⟨j, u, x3, x4, x5, hds, hj, hx5, rfl, hu, hg⟩
      have hjN : j < letK n w := by
        rcases Nat.lt_or_ge j (letK n w) with h | h
        · exact h
        · rw [show letK n w - j = 0 by omega] at hds
          cases hds
      rw [show letK n w - j = (letK n w - (j + 1)) + 1 by omega, List.range'_succ, List.map_cons] at hds
      injection hds with hd hds
      subst hd
      refine ⟨_, rfl, ?_⟩
      rw [show letK n w - j = (letK n w - (j + 1)) + 1 by omega] at hg
      unfold letGo at hg
      rw [List.drop_drop, show j * n + n = (j + 1) * n by rw [Nat.succ_mul]] at hg
      have hfl : j * n + n ≤ w.length := by
        rw [← full, ← Nat.succ_mul]
        exact Nat.mul_le_mul_right _ hjN
      obtain ⟨a, ha⟩ : ∃ a, a = j * n := ⟨_, rfl⟩
      rw [← ha] at hg hfl ⊢
      have e1 : cutS (st w) (some (a : Int)) (some ((a : Int) + n)) = st ((w.drop a).take n) := by
        rw [cutS_st, cut_mid (by omega) (by omega), show ((a : Int) + n).toNat - (a : Int).toNat = n by omega, show (a : Int).toNat = a by omega]
      have hp : ((w.drop a).take n).length = n := by simp; omega
      revert hg hp e1
      generalize (w.drop a).take n = p
      intro hg e1 hp
      simp [-cutS_st, e1, show w.length ≤ sizeLine by omega, show p.length ≤ sizeLine by omega]
      refine compC ?_
      simp [hx5, show p.length ≤ sizeLine by omega]
      refine (compF (E := [.d (.int n), .d (sD w), .d (sD u), .d (.int a), .d (sD p), .no]) (m := m) (p := fun d => match d with
        | .str s => decide (s = st [49])
        | _ => false) (h := fun d => d) (by rfl) ?_).mono ?_
      · intro d hd
        obtain ⟨c, hc, rfl⟩ := List.mem_map.mp hd
        refine ⟨_, rfl, ?_⟩
        simp
        exact ⟨rfl, fun _ => rfl⟩
      · rintro ys s ⟨hys, rfl⟩
        have e9 : ys.length = p.count 49 := by
          rw [hys, List.length_map, List.filter_map, List.length_map, List.count_eq_length_filter]
          congr 1
          apply List.filter_congr
          intro x hx
          simp
          rfl
        by_cases c2 : p.count 49 = 1
        · rw [if_neg (by rintro (h | h); omega; exact h c2)] at hg
          obtain ⟨i1, i2, i3⟩ := idx6 hn.2 (by omega) c2
          simp [backS, e9, c2, i1, atI_k, i3, st_one, show u.length + 1 ≤ sizeLine by omega]
          exact ⟨j + 1, by rw [hds]; simp, by omega, _, _, _, _, hx5, ⟨rfl, rfl, rfl, rfl⟩, by simp [hu], hg⟩
        · rw [if_pos (.inr c2)] at hg
          subst hg
          simp [backS, e9, show ¬ ((p.count 49 : Int) = 1) by omega, oD]
    · rintro _ ⟨j, u, x3, x4, x5, hds, hj, hx5, rfl, hu, hg⟩
      have hjN : j = letK n w := by
        have := congrArg List.length hds
        simp at this
        omega
      subst hjN
      rw [Nat.sub_self] at hg
      unfold letGo at hg
      subst hg
      simp [oD]
    · refine ⟨0, [], .no, .no, .no, ?_, by omega, rfl, ?_, rfl, ?_⟩
      · simp [List.range_eq_range', letK]
      · simp
      · simp [hres, letD]
  · have : res = none := by
      rw [hres]
      rw [hr] at c
      refine letGo_bad hn.1 c ?_
      unfold letK
      have h2 := Nat.div_add_mod w.length n
      have h3 := Nat.mod_lt w.length (show n > 0 by omega)
      have h4 : (w.length + n - 1) / n = w.length / n + 1 := by
        rw [Nat.div_eq_iff (by omega)]
        constructor
        · rw [Nat.succ_mul, Nat.mul_comm]; omega
        · rw [Nat.succ_mul, Nat.mul_comm]; omega
      rw [h4, Nat.succ_mul, Nat.mul_comm]
      omega
    subst this
    simp [show ¬ ((r : Nat) : Int) = 0 by omega, c, oD]
end Law
end

section
set_option Elab.async false
set_option linter.all false
set_option maxRecDepth 100000
set_option maxHeartbeats 1000000
namespace Law
open PySem PySem.Spec PyProof.Rows L2 PL
/-! ### the cyclic system steps as the tag system does -/
def itC (S : List Wd) : Nat → Nat × Wd → Nat × Wd
  | 0, q => q
  | k + 1, q => itC S k (cstep S q.1 q.2)
theorem itC_add {S : List Wd} : ∀ {a b : Nat} {q : Nat × Wd}, itC S (a + b) q = itC S b (itC S a q)
  | 0, b, q => by rw [Nat.zero_add]; rfl
  | a + 1, b, q => by rw [show a + 1 + b = (a + b) + 1 by omega]; show itC S (a + b) (cstep S q.1 q.2) = itC S b (itC S a (cstep S q.1 q.2)); exact itC_add
theorem cyGo_run {S : List Wd} : ∀ {n : Nat} {f : List (Nat × Wd)}, (cyGo S n f).2 = .r → lastC (cyGo S n f).1 = itC S n (lastC f)
  | 0, f, h => rfl
  | n + 1, f, h => by
    unfold cyGo at h ⊢
    by_cases c : (lastC f).2 = []
    · rw [if_pos c] at h; cases h
    · rw [if_neg c] at h ⊢
      dsimp only at h ⊢
      by_cases d : cstep S (lastC f).1 (lastC f).2 ∈ f
      · rw [if_pos d] at h; cases h
      · rw [if_neg d] at h ⊢
        rw [cyGo_run h, lastC_snoc]
        rfl
def emit (S : List Wd) : Nat → Wd → Wd
  | _, [] => []
  | i, a :: u => (if a = 49 then S.getD i [] else []) ++ emit S (i + 1) u
theorem emit_cons {S : List Wd} {i a : Nat} {u : Wd} : emit S i (a :: u) = (if a = 49 then S.getD i [] else []) ++ emit S (i + 1) u := rfl
theorem emit_app {S : List Wd} : ∀ {u v : Wd} {i : Nat}, emit S i (u ++ v) = emit S i u ++ emit S (i + u.length) v
  | [], v, i => rfl
  | a :: u, v, i => by
    rw [List.cons_append, emit_cons, emit_cons, emit_app, List.append_assoc, List.length_cons, show i + 1 + u.length = i + (u.length + 1) by omega]
theorem emit_z {S : List Wd} : ∀ {k i : Nat}, emit S i (List.replicate k 48) = []
  | 0, i => rfl
  | k + 1, i => by
    rw [List.replicate_succ]
    unfold emit
    rw [emit_z]
    rfl
theorem emit_blk {S : List Wd} {n c i : Nat} (h : 97 ≤ c ∧ c < 97 + n) : emit S i (blk n c) = S.getD (i + (c - 97)) [] := by
  rw [← blk_eq h, emit_app, emit_app, emit_z, emit_z]
  simp [emit]
theorem it_block {S : List Wd} : ∀ {u v : Wd} {i : Nat}, u ≠ [] → i + u.length ≤ S.length → itC S u.length (i, u ++ v) = ((i + u.length) % S.length, v ++ emit S i u)
  | [], v, i, h, hl => absurd rfl h
  | a :: u, v, i, h, hl => by
    rw [List.length_cons]
    unfold itC
    rw [List.cons_append]
    show itC S u.length ((i + 1) % S.length, (u ++ v) ++ if a = 49 then S.getD i [] else []) = _
    rw [List.append_assoc]
    cases u with
    | nil =>
      show itC S 0 _ = _
      unfold itC
      simp [emit]
    | cons b u =>
      rw [List.length_cons, List.length_cons] at hl
      rw [Nat.mod_eq_of_lt (show i + 1 < S.length by omega)]
      rw [it_block (List.cons_ne_nil _ _) (by rw [List.length_cons]; omega)]
      rw [List.append_assoc]
      congr 2
      · rw [List.length_cons]; omega
theorem cycS_len {R : List Wd} : (cycS R).length = 2 * R.length := by unfold cycS; simp; omega
theorem cycS_lo {R : List Wd} {k : Nat} (h : k < R.length) : (cycS R).getD k [] = sg R.length (R.getD k []) := by
  unfold cycS
  rw [List.getD_eq_getElem?_getD, List.getD_eq_getElem?_getD, List.getElem?_append_left (by simpa using h), List.getElem?_map, List.getElem?_eq_getElem h]
  rfl
theorem cycS_hi {R : List Wd} {k : Nat} (h : R.length ≤ k) : (cycS R).getD k [] = [] := by
  unfold cycS
  rw [List.getD_eq_getElem?_getD, List.getElem?_append_right (by simpa using h), List.getElem?_replicate]
  split <;> rfl
theorem it_round {R : List Wd} {a b : Nat} {w : Wd} (ok : okR R) (h : okW R.length (a :: b :: w)) : itC (cycS R) (2 * R.length) (0, sg R.length (a :: b :: w)) = (0, sg R.length (w ++ R.getD (a - 97) [])) := by
  have h1 := ok.l
  have ha : 97 ≤ a ∧ a < 97 + R.length := h a (by simp)
  have hb : 97 ≤ b ∧ b < 97 + R.length := h b (by simp)
  have ne : ∀ c, blk R.length c ≠ [] := fun c e => by have := congrArg List.length e; rw [blk_len, List.length_nil] at this; omega
  rw [sg_cons, sg_cons, show 2 * R.length = R.length + R.length by omega, itC_add]
  have e1 := it_block (S := cycS R) (v := blk R.length b ++ sg R.length w) (i := 0) (ne a) (by rw [blk_len, cycS_len]; omega)
  rw [blk_len] at e1
  rw [e1, emit_blk ha, cycS_len, Nat.mod_eq_of_lt (by omega), Nat.zero_add, Nat.zero_add, List.append_assoc]
  have e2 := it_block (S := cycS R) (v := sg R.length w ++ (cycS R).getD (a - 97) []) (i := R.length) (ne b) (by rw [blk_len, cycS_len]; omega)
  rw [blk_len] at e2
  rw [e2, emit_blk hb, cycS_len, show R.length + R.length = 2 * R.length by omega, Nat.mod_self, cycS_hi (k := R.length + (b - 97)) (by omega), cycS_lo (k := a - 97) (by omega), List.append_nil, ← sg_app]
theorem letD_sg {n : Nat} {w : Wd} (hn : 1 ≤ n) (hw : okW n w) : letD n (sg n w) = some w := by
  have key : ∀ {w u : Wd}, okW n w → letGo n w.length (sg n w) u = some (u ++ w) := by
    intro w
    induction w with
    | nil => intro u _; simp [letGo]
    | cons a w ih =>
      intro u hw
      have ha : 97 ≤ a ∧ a < 97 + n := hw a (by simp)
      rw [List.length_cons]
      unfold letGo
      have t : (sg n (a :: w)).take n = blk n a := by rw [sg_cons, List.take_append_of_le_length (by simp), List.take_of_length_le (by simp)]
      have d : (sg n (a :: w)).drop n = sg n w := by rw [sg_cons, List.drop_append_of_le_length (by simp), List.drop_of_length_le (by simp)]; rfl
      have c1 : (blk n a).count 49 = 1 := by rw [← blk_eq ha]; simp [List.count_replicate]
      have c2 : (blk n a).idxOf 49 = a - 97 := by
        rw [← blk_eq ha, List.append_assoc, List.idxOf_append, if_neg (by simp)]
        simp
      rw [t, d, if_neg (by rintro (h | h); simp at h; exact h c1), ih (fun c hc => hw c (List.mem_cons_of_mem _ hc)), c2, show 97 + (a - 97) = a by omega]
      simp
  unfold letD letK
  rw [sg_len]
  have : (n * w.length + n - 1) / n = w.length := by
    rw [Nat.div_eq_iff (by omega)]
    constructor
    · rw [Nat.mul_comm]; omega
    · rw [Nat.mul_comm]; omega
  rw [this, key hw]
  rfl
end Law
end

section
set_option Elab.async false
set_option linter.all false
set_option maxRecDepth 100000
set_option maxHeartbeats 1000000
namespace Law
open PySem PySem.Spec PyProof.Rows L2 PL
theorem pickS {i : Int} (h0 : 0 ≤ i) (h1 : i < 5) : ∃ N : Nat, N ≤ 60 ∧ atI [D.int 0, D.int 1, D.int 5, D.int 20, D.int 60] i = some (.int N) := by
  have : i = 0 ∨ i = 1 ∨ i = 2 ∨ i = 3 ∨ i = 4 := by omega
  rcases this with rfl | rfl | rfl | rfl | rfl
  · exact ⟨0, by omega, rfl⟩
  · exact ⟨1, by omega, rfl⟩
  · exact ⟨5, by omega, rfl⟩
  · exact ⟨20, by omega, rfl⟩
  · exact ⟨60, by omega, rfl⟩
theorem sign_at {i : Int} (h0 : 0 ≤ i) (h1 : i < 2) : atI [48, 49] i = some (48 + i.toNat) := by
  have : i = 0 ∨ i = 1 := by omega
  rcases this with rfl | rfl <;> rfl
theorem cyGo_ok {S : List Wd} (ok : okS S) : ∀ {n : Nat} {f : List (Nat × Wd)}, okC S 1000 f → f.length + n ≤ 1000 → okC S 1000 (cyGo S n f).1
  | 0, f, h, hl => h
  | n + 1, f, h, hl => by
    unfold cyGo
    by_cases c : (lastC f).2 = []
    · rw [if_pos c]; exact h
    · rw [if_neg c]
      dsimp only
      have hs := h.snoc (b := 1000) ok (by omega)
      by_cases d : cstep S (lastC f).1 (lastC f).2 ∈ f
      · rw [if_pos d]; exact hs
      · rw [if_neg d]; exact cyGo_ok ok hs (by simp; omega)
theorem gd_cy {S : List Wd} {w : Wd} {N : Nat} (ok : okS S) (hw : okB w) (hl : w.length ≤ 1000) (hN : N ≤ 500) : Gd 1 (cyD (cyGo S N [(0, w)]) N) := by
  have h := cyGo_ok ok (n := N) (f := [(0, w)]) ⟨by simp, by simp; exact ⟨hw, by omega, by have := ok.l; omega⟩, by simp⟩ (by simp; omega)
  have h2 := (h.w _ (lastC_mem h.ne)).2.1
  have h3 := h.l
  revert h2 h3
  generalize cyGo S N [(0, w)] = res
  intro h2 h3
  unfold cyD
  refine .tup (fun x hx => ?_) (by simp)
  simp only [List.mem_cons, List.not_mem_nil, or_false] at hx
  rcases hx with rfl | rfl | rfl | rfl
  · rw [st_of (hS res.2)]
    exact .str _ (hS_len _)
  · exact .int _
  · exact .int _
  · exact .str _ (by omega)
theorem okS_up {S : List Wd} (h1 : 1 ≤ S.length) (h2 : S.length ≤ 12) (h : ∀ s ∈ S, okB s ∧ s.length ≤ 48) : okS S := ⟨h1, h2, h⟩
/-- a comprehension of drawn signs -/
theorem sign_comp {u : Store} {n : Nat} {B : Int} {b x2 : Sl} {r : PEnv} {ds : List D} (hb : Bx u n B) (hl : ds.length ≤ 1000) (hB : B ≤ 1000000000) :
    CLP (.n 3) [3] cYes (cFz (cOp2 gIx (.e (cC (.str (st [48, 49])))) (.e (cFz (cCall f__law_take (cCons (cRef 0) (cCons (cC (.int 2)) cNil)) []))))) ds ⟨.d (.ref n) :: b :: x2 :: .no :: r, u⟩
      fun ys s => ∃ m, s = ⟨.d (.ref n) :: b :: x2 :: .no :: r, m⟩ ∧ ∃ w : Wd, ys = w.map sgn ∧ okB w ∧ w.length = ds.length ∧ Bx m n (B + ds.length) := by
  have hz := line
  refine (compP (E := .d (.ref n) :: b :: x2 :: .no :: r) (fun es acc m => ∃ w : Wd, acc = w.map sgn ∧ okB w ∧ w.length + es.length = ds.length ∧ Bx m n (B + w.length)) ?_ ds [] _ (by rfl) ⟨[], rfl, fun c hc => by simp at hc, by simp, by simpa using hb⟩).mono ?_
  · rintro d es acc m' ⟨w, rfl, hw, hl2, hbw⟩
    simp only [List.length_cons] at hl2
    refine ⟨_, rfl, ?_⟩
    simp
    refine callP (take_spec (many := 2) hbw (by omega) (by omega) (by omega)) ?_
    rintro v u' ⟨j, rfl, h5, h6, hb3⟩
    simp [sign_at h5 h6, st_one]
    refine ⟨rfl, w ++ [48 + j.toNat], by simp, ?_, by simp; omega, ?_⟩
    · intro c hc
      rcases List.mem_append.mp hc with hc | hc
      · exact hw c hc
      · simp at hc
        subst hc
        omega
    · have : (B + ((w ++ [48 + j.toNat]).length : Int)) = B + w.length + 1 := by simp; omega
      rw [this]
      exact hb3
  · rintro ys s ⟨m', rfl, w, hys, hw, hl2, hbw⟩
    simp at hys hl2
    subst hys
    exact ⟨m', rfl, w, rfl, hw, hl2, by rw [← hl2]; exact hbw⟩
theorem any_cyclic_spec {m : Store} {n : Nat} {B : Int} {bn : Bool} (hb : Bx m n B) (hB : B ≤ 900000000) :
    FnP f__law_any_cyclic_right [.ref n, .bl bn] m fun v u => v = .d (.bl true) ∧ Bx u n (B + 100) := by
  have hz := line
  refine FnP.mk rfl ?_
  cases bn
  · simp [b__law_any_cyclic_right]
    refine compC ?_
    simp
    refine callP (take_spec (many := 5) hb (by omega) (by decide) (by decide)) ?_
    rintro v u ⟨a, rfl, ha0, ha1, hb⟩
    obtain ⟨A, hA⟩ : ∃ A : Nat, 1 + a = A := ⟨(1 + a).toNat, by omega⟩
    have hA1 : 1 ≤ A ∧ A ≤ 5 := by omega
    simp [hA, show (-4611686018427387904 : Int) ≤ A by omega, show (A : Int) < 4611686018427387904 by omega, show A ≤ sizeLine by omega]
    refine (compP (E := [.d (.ref n), .d (.bl false), .no, .no, .no, .no, .no, .no]) (fun ds acc m => ∃ R : List Wd, acc = R.map sD ∧ (∀ r ∈ R, okB r ∧ r.length ≤ 48) ∧ R.length + ds.length = A ∧ Bx m n (B + 1 + 5 * R.length)) ?_ (PL.upTo 0 A) [] _ (by rfl) ⟨[], rfl, fun c hc => by simp at hc, by simp, by simpa using hb⟩).mono ?_
    · rintro d ds acc m' ⟨R, rfl, hR, hlR, hbR⟩
      simp only [List.length_cons] at hlR
      refine ⟨_, rfl, ?_⟩
      simp
      refine compC ?_
      simp
      refine callP (take_spec (many := 4) hbR (by omega) (by decide) (by decide)) ?_
      rintro v u1 ⟨c, rfl, hc0, hc1, hb2⟩
      simp [show (-4611686018427387904 : Int) ≤ c by omega, show c < 4611686018427387904 by omega, show c.toNat ≤ sizeLine by omega]
      refine (sign_comp hb2 ?_ (by omega)).mono ?_
      · rw [upTo_len]; omega
      rintro ys s ⟨m2, rfl, w, rfl, hw, hlw, hb3⟩
      simp at hlw hb3
      simp [backS, join_sgn (show w.length ≤ 1000000 by omega)]
      refine ⟨rfl, R ++ [w], by simp, ?_, by simp; omega, ?_⟩
      · intro x hx
        rcases List.mem_append.mp hx with hx | hx
        · exact hR x hx
        · simp at hx
          subst hx
          exact ⟨hw, by omega⟩
      · exact hb3.up (by simp; omega)
    · rintro ys s ⟨m', rfl, R, hys, hR, hlR, hbR⟩
      simp at hys hlR
      subst hys
      have okS := okS_up (S := R) (by omega) (by omega) hR
      simp [backS]
      refine compC ?_
      simp
      refine callP (take_spec (many := 7) hbR (by omega) (by decide) (by decide)) ?_
      rintro v u1 ⟨c, rfl, hc0, hc1, hb2⟩
      simp [show (-4611686018427387904 : Int) ≤ c by omega, show c < 4611686018427387904 by omega, show c.toNat ≤ sizeLine by omega]
      refine (sign_comp hb2 ?_ (by omega)).mono ?_
      · rw [upTo_len]; omega
      rintro ys s ⟨m2, rfl, w, rfl, hw, hlw, hb3⟩
      simp at hlw hb3
      simp [backS, join_sgn (show w.length ≤ 1000000 by omega)]
      refine callP (take_spec (many := 5) hb3 (by omega) (by decide) (by decide)) ?_
      rintro v u3 ⟨e, rfl, he0, he1, hb4⟩
      obtain ⟨N, hN, hp⟩ := pickS he0 he1
      simp [hp, pm]
      refine callV (cyclic_run_spec okS hw (by omega) (by omega)) ?_
      simp
      refine callV (law_cyclic_spec okS hw (by omega) (by omega)) ?_
      simp
      refine callV (same_spec ((gd_cy okS hw (by omega) (by omega)).upn 4)) ?_
      simp
      exact hb4.up (by omega)
  · simp [b__law_any_cyclic_right]
    refine compC ?_
    simp
    refine callP (take_spec (many := 5) hb (by omega) (by decide) (by decide)) ?_
    rintro v u ⟨a, rfl, ha0, ha1, hb⟩
    obtain ⟨A, hA⟩ : ∃ A : Nat, 1 + a = A := ⟨(1 + a).toNat, by omega⟩
    have hA1 : 1 ≤ A ∧ A ≤ 5 := by omega
    simp [hA, show (-4611686018427387904 : Int) ≤ A by omega, show (A : Int) < 4611686018427387904 by omega, show A ≤ sizeLine by omega]
    refine (compP (E := [.d (.ref n), .d (.bl true), .no, .no, .no, .no, .no, .no]) (fun ds acc m => ∃ R : List Wd, acc = R.map sD ∧ (∀ r ∈ R, okB r ∧ r.length ≤ 48) ∧ R.length + ds.length = A ∧ Bx m n (B + 1 + 5 * R.length)) ?_ (PL.upTo 0 A) [] _ (by rfl) ⟨[], rfl, fun c hc => by simp at hc, by simp, by simpa using hb⟩).mono ?_
    · rintro d ds acc m' ⟨R, rfl, hR, hlR, hbR⟩
      simp only [List.length_cons] at hlR
      refine ⟨_, rfl, ?_⟩
      simp
      refine compC ?_
      simp
      refine callP (take_spec (many := 4) hbR (by omega) (by decide) (by decide)) ?_
      rintro v u1 ⟨c, rfl, hc0, hc1, hb2⟩
      simp [show (-4611686018427387904 : Int) ≤ c by omega, show c < 4611686018427387904 by omega, show c.toNat ≤ sizeLine by omega]
      refine (sign_comp hb2 ?_ (by omega)).mono ?_
      · rw [upTo_len]; omega
      rintro ys s ⟨m2, rfl, w, rfl, hw, hlw, hb3⟩
      simp at hlw hb3
      simp [backS, join_sgn (show w.length ≤ 1000000 by omega)]
      refine ⟨rfl, R ++ [w], by simp, ?_, by simp; omega, ?_⟩
      · intro x hx
        rcases List.mem_append.mp hx with hx | hx
        · exact hR x hx
        · simp at hx
          subst hx
          exact ⟨hw, by omega⟩
      · exact hb3.up (by simp; omega)
    · rintro ys s ⟨m', rfl, R, hys, hR, hlR, hbR⟩
      simp at hys hlR
      subst hys
      have okS := okS_up (S := R) (by omega) (by omega) hR
      simp [backS]
      refine compC ?_
      simp
      refine callP (take_spec (many := 7) hbR (by omega) (by decide) (by decide)) ?_
      rintro v u1 ⟨c, rfl, hc0, hc1, hb2⟩
      simp [show (-4611686018427387904 : Int) ≤ c by omega, show c < 4611686018427387904 by omega, show c.toNat ≤ sizeLine by omega]
      refine (sign_comp hb2 ?_ (by omega)).mono ?_
      · rw [upTo_len]; omega
      rintro ys s ⟨m2, rfl, w, rfl, hw, hlw, hb3⟩
      simp at hlw hb3
      simp [backS, join_sgn (show w.length ≤ 1000000 by omega)]
      refine callP (take_spec (many := 5) hb3 (by omega) (by decide) (by decide)) ?_
      rintro v u3 ⟨e, rfl, he0, he1, hb4⟩
      obtain ⟨N, hN, hp⟩ := pickS he0 he1
      simp [hp, pm]
      refine callV (cyclic_run_spec okS hw (by omega) (by omega)) ?_
      simp
      refine callV (law_cyclic_spec okS hw (by omega) (by omega)) ?_
      simp
      refine callV (same_spec ((gd_cy okS hw (by omega) (by omega)).upn 4)) ?_
      simp
      exact hb4.up (by omega)
end Law
end

section
set_option Elab.async false
set_option linter.all false
set_option maxRecDepth 100000
set_option maxHeartbeats 1000000
namespace Law
open PySem PySem.Spec PyProof.Rows L2 PL
def turnC0 : S → Fl :=
    (sSeq (sSet 17 (cMth "str" gJoin (.e (cC (.str ""))) [.e (cFz (cComp (iRng gRng1 (cCons (cFz (cOp2 gAdd (.e (cFz (cOp2 gMul (.v 4) (.e (cFz (cCall f__law_take (cCons (cRef 0) (cCons (cC (.int 4)) cNil)) [])))))) (.e (cFz (cOpN gInt [.e (cFz (cOp2 gEq (.e (cFz (cCall f__law_take (cCons (cRef 0) (cCons (cC (.int 5)) cNil)) []))) (.e (cC (.int 0)))))]))))) cNil)) (.n 11) [11] cYes (cFz (cOp2 gIx (.e (cC (.str "01"))) (.e (cFz (cOpN gInt [.e (cFz (cOp2 gEq (.e (cFz (cCall f__law_take (cCons (cRef 0) (cCons (cFz (cOp2 gAdd (.v 4) (.e (cC (.int 1))))) cNil)) []))) (.e (cC (.int 0)))))])))))))]))
    (sIf (cNot (cB (cCall (f__law_same 6) (cCons (cFz (cCall f_from_cyclic_word (cCons (cVar 5) (cCons (cVar 17) cNil)) [])) (cCons (cFz (cCall f__law_letters (cCons (cVar 4) (cCons (cVar 17) cNil)) [])) cNil)) [])))
    (sRet (cD (cC (.bl false))))
    sPass))
@[irreducible] def turnC : S → Fl := turnC0
theorem turnC_eq : turnC = turnC0 := by unfold turnC; rfl
def ringC0 : S → Fl :=
    (sSeq (sSet 12 (cOp2 gMul (.e (cFz (cOp2 gMul (.e (cC (.int 2))) (.v 4)))) (.v 11)))
    (sSeq (sIf (cOr (cB (cOp2 (gB2 fun i j => decide (j < i)) (.v 12) (.e (cC (.int 500))))) (cOr (cB (cOp2 (gB2 fun i j => decide (j < i)) (.e (cFz (cOpN gLen [.e (cFz (cOp2 gIx (.v 8) (.v 11)))]))) (.e (cC (.int 60))))) (cB (cOp2 gNe (.e (cFz (cComp (iSeq (cFz (cSl (.v 8) .none (.e (cVar 11))))) (.n 13) [13] (cB (cOp2 gEq (.v 13) (.e (cFz (cOp2 gIx (.v 8) (.v 11)))))) (cVar 13)))) (.e (cFz (cLst cNil)))))))
    sBreak
    sPass)
    (sSeq (sSet 14 (cIf (cB (cD (cVar 3))) (cCallK f_cyclic_run cNil (cCons (cVar 12) (cCons (cVar 10) (cCons (cVar 6) cNil))) [2, 1, 0]) (cCall f_cyclic_run (cCons (cVar 6) (cCons (cVar 10) (cCons (cVar 12) cNil))) [])))
    (sSeq (sSet 15 (cCall f__law_cyclic (cCons (cVar 6) (cCons (cVar 10) (cCons (cVar 12) cNil))) []))
    (sSeq (sIf (cOr (cNot (cB (cCall (f__law_same 6) (cCons (cVar 14) (cCons (cVar 15) cNil)) []))) (cAnd (cB (cOp2 gEq (.e (cFz (cOp2 gIx (.v 15) (.e (cC (.int 0)))))) (.e (cC (.str "running"))))) (cNot (cB (cCall (f__law_same 6) (cCons (cFz (cLst (cCons (cFz (cOp2 gIx (.v 14) (.e (cC (.int 2))))) (cCons (cFz (cOp2 gIx (.v 14) (.e (cC (.int 3))))) cNil)))) (cCons (cFz (cLst (cCons (cC (.int 0)) (cCons (cFz (cCall f__law_signs (cCons (cVar 4) (cCons (cFz (cOp2 gIx (.v 8) (.v 11))) cNil)) [])) cNil)))) cNil)) [])))))
    (sRet (cD (cC (.bl false))))
    sPass)
    (sIf (cAnd (cB (cOp2 gEq (.e (cFz (cOp2 gIx (.v 15) (.e (cC (.int 0)))))) (.e (cC (.str "running"))))) (cNot (cB (cCall (f__law_same 6) (cCons (cFz (cIf (cB (cD (cVar 3))) (cCallK f_from_cyclic_word cNil (cCons (cFz (cOp2 gIx (.v 14) (.e (cC (.int 3))))) (cCons (cVar 5) cNil)) [1, 0]) (cCall f_from_cyclic_word (cCons (cVar 5) (cCons (cFz (cOp2 gIx (.v 14) (.e (cC (.int 3))))) cNil)) []))) (cCons (cFz (cOp2 gIx (.v 8) (.v 11))) cNil)) []))))
    (sRet (cD (cC (.bl false))))
    sPass))))))
@[irreducible] def ringC : S → Fl := ringC0
theorem ringC_eq : ringC = ringC0 := by unfold ringC; rfl
theorem letGo_len {n : Nat} : ∀ {k : Nat} {w u v : Wd}, letGo n k w u = some v → v.length = u.length + k
  | 0, w, u, v, h => by
    unfold letGo at h
    cases h
    rfl
  | k + 1, w, u, v, h => by
    unfold letGo at h
    by_cases c : (w.take n).length < n ∨ (w.take n).count 49 ≠ 1
    · rw [if_pos c] at h; cases h
    · rw [if_neg c] at h
      have := letGo_len h
      simp at this
      omega
theorem gd_let {n : Nat} {w : Wd} (hn : 1 ≤ n ∧ n ≤ 6) (hl : w.length ≤ 1000) : Gd 0 (oD (letD n w)) := by
  cases e : letD n w with
  | none => exact .non
  | some v =>
    have h := letGo_len (u := []) e
    have := letK_le (w := w) hn hl
    exact .str _ (by simp at h; omega)
theorem turn_spec {u : Store} {n : Nat} {B : Int} {b : Bool} {R : List Wd} {x2 x6 x7 x8 x9 x10 x11 x12 x13 x14 x15 x16 x17 : Sl} {K : KF} (ok : okR R) (hb : Bx u n B) (hB : B ≤ 1000000000) (h11 : x11.isOwn = false)
    (hK : ∀ (m : Store) (y11 y17 : Sl), y11.isOwn = false → Bx m n (B + 100) → K.nx ⟨[.d (.ref n), .d (.tup (R.map sD)), x2, .d (.bl b), .d (.int R.length), .d (tagsD 2 R), x6, x7, x8, x9, x10, y11, x12, x13, x14, x15, x16, y17], m⟩) :
    FP (turnC ⟨[.d (.ref n), .d (.tup (R.map sD)), x2, .d (.bl b), .d (.int R.length), .d (tagsD 2 R), x6, x7, x8, x9, x10, x11, x12, x13, x14, x15, x16, x17], u⟩) K := by
  have hz := line
  have hr1 := ok.l
  have hr2 := ok.u
  rw [turnC_eq]
  simp [turnC0]
  refine compC ?_
  simp
  refine callP (take_spec (many := 4) hb (by omega) (by decide) (by decide)) ?_
  intro v u1 h
  obtain ⟨c, hv, hc0, hc1, hb2⟩ := h
  rw [hv]
  have hcm : CMulB (R.length : Int) c = true := cmul_small (by omega)
  simp [hcm]
  refine callP (take_spec (many := 5) hb2 (by omega) (by decide) (by decide)) ?_
  intro v u2 h
  obtain ⟨e, hv, he0, he1, hb3⟩ := h
  rw [hv]
  have hLL : ∃ L : Nat, (R.length : Int) * c + (if e = 0 then 1 else 0) = L ∧ L ≤ 30 := by
    have : (R.length : Int) * c ≤ 6 * 3 := Int.mul_le_mul (by omega) (by omega) (by omega) (by omega)
    have h0 : 0 ≤ (R.length : Int) * c := Int.mul_nonneg (by omega) (by omega)
    refine ⟨((R.length : Int) * c + (if e = 0 then 1 else 0)).toNat, ?_, ?_⟩ <;> split <;> omega
  simp
  obtain ⟨L, hL, hL2⟩ := hLL
  simp [hL]
  refine ⟨by omega, by omega, h11, (compP (E := [.d (.ref n), .d (.tup (R.map sD)), x2, .d (.bl b), .d (.int R.length), .d (tagsD 2 R), x6, x7, x8, x9, x10, .no, x12, x13, x14, x15, x16, x17]) (fun ds acc m => ∃ w : Wd, acc = w.map sgn ∧ okB w ∧ w.length + ds.length = L ∧ Bx m n (B + 1 + 1 + w.length)) ?_ (PL.upTo 0 L) [] _ (by rfl) ⟨[], rfl, fun c hc => by simp at hc, by simp, by simpa using hb3⟩).mono ?_⟩
  · rintro d ds acc m' ⟨w, rfl, hw, hlw, hbw⟩
    simp only [List.length_cons] at hlw
    refine ⟨_, rfl, ?_⟩
    simp
    refine callP (take_spec (many := (R.length : Int) + 1) hbw (by omega) (by omega) (by omega)) ?_
    intro v u3 h
    obtain ⟨j, hv, hj0, hj1, hb4⟩ := h
    rw [hv]
    have fin : ∀ c : Nat, (c = 48 ∨ c = 49) → Bx u3 n (B + 1 + 1 + ((w ++ [c]).length : Int)) ∧ okB (w ++ [c]) := fun c hc => by
      refine ⟨hb4.up (by simp; omega), fun x hx => ?_⟩
      rcases List.mem_append.mp hx with hx | hx
      · exact hw x hx
      · simp at hx
        subst hx
        exact hc
    by_cases c0 : j = 0
    · simp [c0, st_one]
      exact ⟨rfl, w ++ [49], by simp, (fin 49 (.inr rfl)).2, by simp; omega, (fin 49 (.inr rfl)).1⟩
    · simp [c0, st_one]
      exact ⟨rfl, w ++ [48], by simp, (fin 48 (.inl rfl)).2, by simp; omega, (fin 48 (.inl rfl)).1⟩
  · rintro ys s ⟨m', rfl, w, hys, hw, hlw, hbw⟩
    simp at hys hlw
    subst hys
    simp [backS, join_sgn (show w.length ≤ 1000000 by omega)]
    refine callV (from_cyclic_spec ok hw (by omega)) ?_
    simp
    refine callV (law_letters_spec (n := R.length) (by omega) hw (by omega)) ?_
    simp
    refine callV (same_spec (Gd.upn (n := 0) ?_ 5)) ?_
    · exact gd_let (by omega) (by omega)
    · simp
      exact hK _ _ _ h11 (hbw.up (by omega))
end Law
end

section
set_option Elab.async false
set_option linter.all false
set_option maxRecDepth 100000
set_option maxHeartbeats 1000000
namespace Law
open PySem PySem.Spec PyProof PyProof.Rows L2 PL
theorem it_way {R f : List Wd} {w : Wd} (ok : okR R) (hc : Ch 2 R f) (hf : ∀ u ∈ f, okW R.length u) (h0 : f[0]? = some w) : ∀ {k : Nat} {u : Wd}, f[k]? = some u → itC (cycS R) (2 * R.length * k) (0, sg R.length w) = (0, sg R.length u)
  | 0, u, h => by
    rw [h0] at h
    cases h
    rfl
  | k + 1, u, h => by
    have hl := (List.getElem?_eq_some_iff.mp h).1
    have h3 : f[k]? = some f[k] := List.getElem?_eq_getElem (by omega)
    rw [Nat.mul_succ, itC_add, it_way ok hc hf h0 h3]
    have e := hc k _ _ h3 h
    have hw := hf _ (List.mem_of_getElem? h3)
    revert e hw
    generalize f[k] = v
    intro e hw
    unfold nxt at e
    match v, e, hw with
    | [], e, hw => simp at e
    | [a], e, hw => simp at e
    | a :: b :: v, e, hw =>
      simp at e
      rw [it_round ok hw, ← e]
      simp
theorem toPys_words : ∀ l : List Wd, toPys (l.map sD) = some (l.map fun w => PyData.str (st w))
  | [] => by unfold toPys; rfl
  | w :: l => by
    rw [List.map_cons]
    unfold toPys
    rw [toPys_words l]
    unfold toPy
    rfl
theorem lay_words : ∀ l : List Wd, (∀ w ∈ l, ∀ c ∈ w, c < 128) → PyData.canLayAll0 (l.map fun w => PyData.str (st w)) = true ∧ PyData.depthAll (l.map fun w => PyData.str (st w)) = 0
  | [], _ => ⟨rfl, rfl⟩
  | w :: l, h => by
    have ih := lay_words l fun v hv => h v (List.mem_cons_of_mem _ hv)
    have hw := h w (List.mem_cons_self ..)
    rw [List.map_cons]
    simp only [PyData.canLayAll0, PyData.depthAll, PyData.canLay0, PyData.depth, ih.1, ih.2]
    refine ⟨?_, rfl⟩
    simp only [PyData.strOk, Bool.and_true]
    rw [Array.all_eq_true']
    intro c hc
    have := hw c (by rw [← st_cps (w := w)]; exact Array.mem_def.mp hc)
    simp
    omega
theorem gNe_words {l : List Wd} (h : ∀ w ∈ l, ∀ c ∈ w, c < 128) : ∃ b, gNe (.lst (l.map sD)) (.lst []) = some (.d (.bl b)) := by
  obtain ⟨h1, h2⟩ := lay_words l h
  have e1 : toPy (.lst (l.map sD)) = some (.list (l.map fun w => PyData.str (st w))) := by unfold toPy; rw [toPys_words]; rfl
  have e2 : toPy (.lst []) = some (.list []) := by unfold toPy toPys; rfl
  have e : eqD (.lst (l.map sD)) (.lst []) = (toPy (.lst (l.map sD))).bind fun p => (toPy (.lst [])).bind fun q => if SeqAt.shaped p = true ∧ SeqAt.shaped q = true then some (PyData.eqv p q) else none := rfl
  unfold gNe
  rw [e, e1, e2, Option.bind_some, Option.bind_some, if_pos ⟨by unfold SeqAt.shaped; simp [PyData.canLay0, PyData.depth, h1, h2], by decide⟩]
  exact ⟨_, rfl⟩
theorem cutD_take {l : List D} {k : Nat} : PL.cutD l none (some (k : Int)) = l.take k := by
  unfold PL.cutD
  rw [cut_upto (by omega)]
  simp
theorem seen_ne {n : Nat} {f : List Wd} {x : Wd} {ys : List D} {k : Nat} (hx : okW n x) (hn : n ≤ 6)
    (h : ys = (((f.map sD).take k).filter fun d => match d with
    | .str s => decide (s = st x)
    | _ => false).map fun d => d) : ∃ b, gNe (.lst ys) (.lst []) = some (.d (.bl b)) := by
  have e : ys = ((f.take k).filter fun v => decide (v = x)).map sD := by
    rw [h, ← List.map_take, List.filter_map, List.map_id']
    congr 1
    apply List.filter_congr
    intro v hv
    simp
  rw [e]
  refine gNe_words fun v hv => ?_
  have := of_decide_eq_true (List.mem_filter.mp hv).2
  subst this
  intro c hc
  have := hx c hc
  omega
theorem okS_cyc {R : List Wd} (ok : okR R) : okS (cycS R) := by
  have h1 := ok.l
  have h2 := ok.u
  refine okS_up (by rw [cycS_len]; omega) (by rw [cycS_len]; omega) fun s hs => ?_
  unfold cycS at hs
  rcases List.mem_append.mp hs with h | h
  · obtain ⟨r, hr, rfl⟩ := List.mem_map.mp h
    refine ⟨sg_B, ?_⟩
    rw [sg_len]
    exact Nat.le_trans (Nat.mul_le_mul h2 (ok.z r hr)) (by decide)
  · have := (List.mem_replicate.mp h).2
    subst this
    exact ⟨fun c hc => by simp at hc, by simp⟩
theorem ring_spec {u : Store} {n k N : Nat} {b : Bool} {R f : List Wd} {w x : Wd} {q : How} {x7 x12 x14 x15 x16 x17 : Sl} {K : KF} (hN : N = 2 * R.length * k) (ok : okR R) (hwy : WayOk 2 R 12 w f q) (hx : f[k]? = some x) (hw : okW R.length w) (hl : w.length ≤ 8)
    (hK : ∀ y12 y14 y15 : Sl, K.nx ⟨[.d (.ref n), .d (.tup (R.map sD)), .d (sD w), .d (.bl b), .d (.int R.length), .d (tagsD 2 R), .d (.tup ((cycS R).map sD)), x7, .d (.lst (f.map sD)), .d (.str (hS q)), .d (sD (sg R.length w)), .d (.int k), y12, .no, y14, y15, x16, x17], u⟩ ∧
      K.bk ⟨[.d (.ref n), .d (.tup (R.map sD)), .d (sD w), .d (.bl b), .d (.int R.length), .d (tagsD 2 R), .d (.tup ((cycS R).map sD)), x7, .d (.lst (f.map sD)), .d (.str (hS q)), .d (sD (sg R.length w)), .d (.int k), y12, .no, y14, y15, x16, x17], u⟩) :
    FP (ringC ⟨[.d (.ref n), .d (.tup (R.map sD)), .d (sD w), .d (.bl b), .d (.int R.length), .d (tagsD 2 R), .d (.tup ((cycS R).map sD)), x7, .d (.lst (f.map sD)), .d (.str (hS q)), .d (sD (sg R.length w)), .d (.int k), x12, .no, x14, x15, x16, x17], u⟩) K := by
  have hz := line
  have hr1 := ok.l
  have hr2 := ok.u
  have hkl := (List.getElem?_eq_some_iff.mp hx).1
  have hfl := hwy.l
  have hxo := hwy.ok.w x (List.mem_of_getElem? hx)
  rw [ringC_eq]
  have c1 : CMulB 2 (R.length : Int) = true := cmul_small (by omega)
  have c2 : CMulB (2 * (R.length : Int)) k = true := cmul_small (by omega)
  have eN : (2 * (R.length : Int)) * k = N := by rw [hN]; simp
  have e8 : atI (f.map sD) (k : Int) = some (sD x) := by rw [atI_k, List.getElem?_map, hx]; rfl
  simp [ringC0, c1, c2, eN, e8]
  by_cases g1 : (500 : Int) < N
  · rw [if_pos g1]
    exact (hK _ _ _).2
  rw [if_neg g1]
  refine ⟨by omega, ?_⟩
  by_cases g2 : (60 : Int) < x.length
  · rw [if_pos g2]
    exact (hK _ _ _).2
  rw [if_neg g2]
  refine compC ?_
  simp [cutD_take]
  refine ⟨by omega, (compF (E := [.d (.ref n), .d (.tup (R.map sD)), .d (sD w), .d (.bl b), .d (.int R.length), .d (tagsD 2 R), .d (.tup ((cycS R).map sD)), x7, .d (.lst (f.map sD)), .d (.str (hS q)), .d (sD (sg R.length w)), .d (.int k), .d (.int N), .no, x14, x15, x16, x17]) (m := u) (p := fun d => match d with
    | .str s => decide (s = st x)
    | _ => false) (h := fun d => d) (by rfl) ?_).mono ?_⟩
  · intro d hd
    rw [← List.map_take] at hd
    obtain ⟨v, hv, rfl⟩ := List.mem_map.mp hd
    refine ⟨_, rfl, ?_⟩
    simp [e8]
    exact ⟨rfl, fun _ => rfl⟩
  · intro ys s h
    rw [h.2]
    obtain ⟨b2, e9⟩ := seen_ne hxo.1 hr2 h.1
    simp [backS, e9]
    cases b2 with
    | true => exact (hK _ _ _).2
    | false =>
      have hN5 : N ≤ 500 := by omega
      have hsl : (sg R.length w).length ≤ 1000 := by
        rw [sg_len]
        exact Nat.le_trans (Nat.mul_le_mul hr2 hl) (by decide)
      have hS := okS_cyc ok
      have s1 := cyclic_run_spec hS (sg_B (n := R.length) (w := w)) hsl hN5
      have s2 := law_cyclic_spec hS (sg_B (n := R.length) (w := w)) hsl hN5
      have gd := gd_cy hS (sg_B (n := R.length) (w := w)) hsl hN5
      have run := cyGo_run (S := cycS R) (n := N) (f := [(0, sg R.length w)])
      have it := it_way ok hwy.ch (fun u hu => (hwy.ok.w u hu).1) hwy.hd hx
      rw [← hN] at it
      have lst1 : lastC [(0, sg R.length w)] = (0, sg R.length w) := rfl
      rw [lst1, it] at run
      revert s1 s2 gd run
      generalize cyGo (cycS R) N [(0, sg R.length w)] = res
      intro s1 s2 gd run
      simp only [Bool.false_eq_true, if_false]
      have same1 := same_spec (gd.upn 4)
      have same2 : pure' (f__law_same 6) [.lst [.int 0, sD (sg R.length x)], .lst [.int 0, sD (sg R.length x)]] (.bl true) := by
        refine same_spec (Gd.upn (n := 1) (.lst (fun y hy => ?_) (by simp)) 4)
        simp at hy
        rcases hy with rfl | rfl
        · exact .int _
        · refine .str _ ?_
          rw [sg_len]
          exact Nat.le_trans (Nat.mul_le_mul hr2 (show x.length ≤ 60 by omega)) (by decide)
      have sx : (sg R.length x).length ≤ 1000 := by
        rw [sg_len]
        exact Nat.le_trans (Nat.mul_le_mul hr2 (show x.length ≤ 60 by omega)) (by decide)
      have back := from_cyclic_spec ok (sg_B (n := R.length) (w := x)) sx
      rw [letD_sg hr1 hxo.1] at back
      have same3 : pure' (f__law_same 6) [sD x, sD x] (.bl true) := same_spec (Gd.upn (n := 0) (.str _ (by omega)) 5)
      have sgn2 := law_signs_spec (n := R.length) (w := x) (by omega) (by omega)
      cases b with
      | false =>
        simp
        refine callV s1 ?_
        simp
        refine callV s2 ?_
        simp
        refine callV same1 ?_
        simp
        obtain ⟨g, t⟩ := res
        cases t with
        | h => simp [cyD, hS]; exact (hK _ _ _).1
        | a => simp [cyD, hS]; exact (hK _ _ _).1
        | r =>
          have run := run rfl
          dsimp only at run
          simp [cyD, hS, run]
          try simp [e8]
          refine callV sgn2 ?_
          simp
          refine callV same2 ?_
          simp
          refine callV back ?_
          simp [oD, e8]
          refine callV same3 ?_
          simp
          exact (hK _ _ _).1
      | true =>
        simp
        refine callV s1 ?_
        simp
        refine callV s2 ?_
        simp
        refine callV same1 ?_
        simp
        obtain ⟨g, t⟩ := res
        cases t with
        | h => simp [cyD, hS]; exact (hK _ _ _).1
        | a => simp [cyD, hS]; exact (hK _ _ _).1
        | r =>
          have run := run rfl
          dsimp only at run
          simp [cyD, hS, run]
          try simp [e8]
          refine callV sgn2 ?_
          simp
          refine callV same2 ?_
          simp
          refine callV back ?_
          simp [oD, e8]
          refine callV same3 ?_
          simp
          exact (hK _ _ _).1
end Law
end

section
set_option Elab.async false
set_option linter.all false
set_option maxRecDepth 100000
set_option maxHeartbeats 1000000
namespace Law
open PySem PySem.Spec PyProof PyProof.Rows L2 PL
def turnsT0 : S → Fl :=
    (sSeq (sFor (iRng gRng1 (cCons (cC (.int 6)) cNil)) (gN 16)
    turnC)
    (sRet (cD (cC (.bl true)))))
@[irreducible] def turnsT : S → Fl := turnsT0
theorem turnsT_eq : turnsT = turnsT0 := by unfold turnsT; rfl
def ringsT0 : S → Fl :=
    (sSeq (sFor (iRng gRng1 (cCons (cFz (cOpN gLen [.v 8])) cNil)) (gN 11)
    ringC)
    turnsT)
@[irreducible] def ringsT : S → Fl := ringsT0
theorem ringsT_eq : ringsT = ringsT0 := by unfold ringsT; rfl
def cyc0 : S → Fl :=
    (sSeq (sSet 4 (cOpN gLen [.v 1]))
    (sSeq (sSet 5 (cMake "Tags" f_Tags_init (cCons (cC (.int 2)) (cCons (cVar 1) cNil)) []))
    (sSeq (sSet 6 (cIf (cB (cD (cVar 3))) (cCallK f_to_cyclic cNil (cCons (cVar 5) cNil) [0]) (cCall f_to_cyclic (cCons (cVar 5) cNil) [])))
    (sSeq (sIf (cNot (cB (cCall (f__law_same 6) (cCons (cVar 6) (cCons (cFz (cOpN gTupleS [.e (cFz (cOp2 gAdd (.e (cFz (cComp (iSeq (cVar 1)) (.n 7) [7] cYes (cFz (cCall f__law_signs (cCons (cVar 4) (cCons (cVar 7) cNil)) []))))) (.e (cFz (cOp2 gMul (.e (cFz (cLst (cCons (cC (.str "")) cNil)))) (.v 4))))))])) cNil)) [])))
    (sRet (cD (cC (.bl false))))
    sPass)
    (sSeq (sUnp (cFz (cCall f__law_way (cCons (cC (.int 2)) (cCons (cVar 1) (cCons (cVar 2) (cCons (cC (.int 12)) cNil)))) [])) (gT [gN 8, gN 9]))
    (sSeq (sSet 10 (cIf (cB (cD (cVar 3))) (cCallK f_cyclic_word cNil (cCons (cVar 2) (cCons (cVar 5) cNil)) [1, 0]) (cCall f_cyclic_word (cCons (cVar 5) (cCons (cVar 2) cNil)) [])))
    (sSeq (sIf (cNot (cB (cCall (f__law_same 6) (cCons (cVar 10) (cCons (cFz (cCall f__law_signs (cCons (cVar 4) (cCons (cVar 2) cNil)) [])) cNil)) [])))
    (sRet (cD (cC (.bl false))))
    sPass)
    ringsT)))))))
theorem cyc_eq : b__law_cyclic_right = cyc0 := by unfold cyc0; rw [ringsT_eq]; unfold ringsT0; rw [turnsT_eq, ringC_eq]; unfold turnsT0; rw [turnC_eq]; rfl
theorem turns_spec {u : Store} {n : Nat} {B : Int} {b : Bool} {R : List Wd} {x2 x6 x7 x8 x9 x10 x11 x12 x13 x14 x15 x16 x17 : Sl} {K : KF} (ok : okR R) (hb : Bx u n B) (hB : B ≤ 900000000) (h11 : x11.isOwn = false)
    (hK : ∀ (env : PEnv) (m : Store), Bx m n (B + 600) → K.rt (.d (.bl true)) ⟨env, m⟩) :
    FP (turnsT ⟨[.d (.ref n), .d (.tup (R.map sD)), x2, .d (.bl b), .d (.int R.length), .d (tagsD 2 R), x6, x7, x8, x9, x10, x11, x12, x13, x14, x15, x16, x17], u⟩) K := by
  rw [turnsT_eq]
  simp [turnsT0]
  refine forP (fun ds s => ∃ (y11 y16 y17 : Sl) (m : Store), y11.isOwn = false ∧ s = ⟨[.d (.ref n), .d (.tup (R.map sD)), x2, .d (.bl b), .d (.int R.length), .d (tagsD 2 R), x6, x7, x8, x9, x10, y11, x12, x13, x14, x15, y16, y17], m⟩ ∧ ds.length ≤ 6 ∧ Bx m n (B + 100 * (6 - ds.length))) ?_ ?_ _ _ ?_
  · rintro d ds _ ⟨y11, y16, y17, m, h11, rfl, hl, hb⟩
    simp only [List.length_cons] at hl hb
    refine ⟨_, rfl, ?_⟩
    refine turn_spec ok hb (by omega) h11 ?_
    intro m' z11 z17 hz hb2
    exact ⟨z11, _, z17, m', hz, rfl, by omega, hb2.up (by omega)⟩
  · rintro _ ⟨y11, y16, y17, m, h11, rfl, hl, hb⟩
    simp
    exact hK _ _ (hb.up (by simp))
  · exact ⟨x11, x16, x17, u, h11, rfl, by decide, hb.up (by simp)⟩
theorem rings_spec {u : Store} {n : Nat} {B : Int} {b : Bool} {R f : List Wd} {w : Wd} {q : How} {x7 : Sl} {K : KF} (ok : okR R) (hwy : WayOk 2 R 12 w f q) (hw : okW R.length w) (hl : w.length ≤ 8) (hb : Bx u n B) (hB : B ≤ 900000000)
    (hK : ∀ (env : PEnv) (m : Store), Bx m n (B + 600) → K.rt (.d (.bl true)) ⟨env, m⟩) :
    FP (ringsT ⟨[.d (.ref n), .d (.tup (R.map sD)), .d (sD w), .d (.bl b), .d (.int R.length), .d (tagsD 2 R), .d (.tup ((cycS R).map sD)), x7, .d (.lst (f.map sD)), .d (.str (hS q)), .d (sD (sg R.length w)), .no, .no, .no, .no, .no, .no, .no], u⟩) K := by
  have hfl := hwy.ok.l
  rw [ringsT_eq]
  simp [ringsT0, show (-4611686018427387904 : Int) ≤ f.length by omega, show (f.length : Int) < 4611686018427387904 by omega]
  refine forP (fun ds s => ∃ x11 x12 x14 x15 : Sl, x11.isOwn = false ∧ s = ⟨[.d (.ref n), .d (.tup (R.map sD)), .d (sD w), .d (.bl b), .d (.int R.length), .d (tagsD 2 R), .d (.tup ((cycS R).map sD)), x7, .d (.lst (f.map sD)), .d (.str (hS q)), .d (sD (sg R.length w)), x11, x12, .no, x14, x15, .no, .no], u⟩ ∧ ∀ d ∈ ds, ∃ k : Nat, d = .int k ∧ k < f.length) ?_ ?_ _ _ ?_
  · rintro d ds _ ⟨x11, x12, x14, x15, h11, rfl, hd⟩
    obtain ⟨k, rfl, hk⟩ := hd d (List.mem_cons_self ..)
    refine ⟨_, rfl, ?_⟩
    refine ring_spec (k := k) rfl ok hwy (List.getElem?_eq_getElem hk) hw hl ?_
    intro y12 y14 y15
    exact ⟨⟨_, y12, y14, y15, rfl, rfl, fun d hd' => hd d (List.mem_cons_of_mem _ hd')⟩, turns_spec ok hb hB rfl hK⟩
  · rintro _ ⟨x11, x12, x14, x15, h11, rfl, hd⟩
    exact turns_spec ok hb hB h11 hK
  · refine ⟨.no, .no, .no, .no, rfl, rfl, fun d hd => ?_⟩
    obtain ⟨k, hk, rfl⟩ := mem_upTo hd
    exact ⟨k, rfl, hk⟩
end Law
end

section
set_option Elab.async false
set_option linter.all false
set_option maxRecDepth 100000
set_option maxHeartbeats 1000000
namespace Law
open PySem PySem.Spec PyProof PyProof.Rows L2 PL
def R3 : List Wd := [[98, 99], [97], [97, 97, 97]]
theorem okR3 : okR R3 := by
  refine ⟨by decide, by decide, fun r hr => ?_, fun r hr => ?_⟩
  · simp [R3] at hr
    rcases hr with rfl | rfl | rfl <;> (intro c hc; simp at hc; simp [R3]; omega)
  · simp [R3] at hr
    rcases hr with rfl | rfl | rfl <;> decide
@[simp] theorem c_a : Str.ofString "a" = st [97] := by rfl
@[simp] theorem c_bc : Str.ofString "bc" = st [98, 99] := by rfl
@[simp] theorem c_aaa : Str.ofString "aaa" = st [97, 97, 97] := by rfl
theorem R3_eq : [D.str (st [98, 99]), D.str (st [97]), D.str (st [97, 97, 97])] = R3.map sD := rfl
def colT (n : Nat) : Nat := if n % 2 = 0 then n / 2 else (3 * n + 1) / 2
def czGo : Nat → Wd → Nat → List Nat → Option (Nat × List Nat)
  | 0, _, _, _ => none
  | n + 1, w, c, p => if w.length > 1000 ∨ p.length > 1000 then none else if w = [97] then some (c, p) else match nxt 2 R3 w with
    | none => none
    | some a => czGo n a (c + 1) (if a.all (· == 97) = true then p ++ [a.length] else p)
def colGo : Nat → Nat → Nat → Option Nat
  | 0, _, _ => none
  | k + 1, n, c => if 1 < n then colGo k (colT n) (c + (n + n % 2)) else some c
def tnGo : Nat → Wd → Option Wd
  | 0, w => some w
  | n + 1, w => if 60 < w.length ∨ w = [97] then some w else match nxt 2 R3 w with
    | none => none
    | some a => tnGo n a
def chainOk : List Nat → Bool
  | a :: b :: r => b == colT a && chainOk (b :: r)
  | _ => true
def czOk (v : Nat) : Bool := match czGo 3000 (List.replicate v 97) 0 [v] with
  | none => false
  | some (c, p) => colGo 1000 v 0 == some c && chainOk p && p.all (fun x => decide (1 ≤ x) && decide (x ≤ 99)) && p.getLast? == some 1
def tnOk (v : Nat) : Bool := match tnGo (if v % 2 = 0 then v else v + 1) (List.replicate v 97) with
  | none => false
  | some a => !(decide (1 < v) && decide (v < 30)) || a == List.replicate (colT v) 97
set_option maxHeartbeats 0 in
theorem cz_all : ((List.range 27).tail.all czOk) = true := by decide +kernel
set_option maxHeartbeats 0 in
theorem tn_all : ((List.range 100).tail.all tnOk) = true := by decide +kernel
end Law
end

section
set_option Elab.async false
set_option linter.all false
set_option maxRecDepth 100000
set_option maxHeartbeats 1000000
namespace Law
open PySem PySem.Spec PyProof PyProof.Rows L2 PL
theorem gd_cyc {R : List Wd} (ok : okR R) : Gd 1 (.tup ((cycS R).map sD)) := by
  have hS := okS_cyc ok
  refine .tup (fun x hx => ?_) (by simp; have := hS.u; omega)
  obtain ⟨v, hv, rfl⟩ := List.mem_map.mp hx
  exact .str _ (by have := (hS.w v hv).2; omega)
theorem cyclic_body {m : Store} {n : Nat} {B : Int} {R : List Wd} {w : Wd} {bn : Bool} {K : KF} (hb : Bx m n B) (hB : B ≤ 900000000) (ok : okR R) (hw : okW R.length w) (hl : w.length ≤ 8)
    (hK : ∀ env u, Bx u n (B + 600) → K.rt (.d (.bl true)) ⟨env, u⟩) :
    FP (b__law_cyclic_right ⟨[.d (.ref n), .d (.tup (R.map sD)), .d (sD w), .d (.bl bn), .no, .no, .no, .no, .no, .no, .no, .no, .no, .no, .no, .no, .no, .no], m⟩) K := by
  have hz := line
  have h1 := ok.l
  have h2 := ok.u
  rw [cyc_eq]
  simp [cyc0, pm]
  refine make_spec (t := 2) ok (by omega) ?_
  simp [pm]
  refine callV (to_cyclic_spec ok) ?_
  simp
  refine compC ?_
  simp
  refine ⟨by omega, (compM (E := [.d (.ref n), .d (.tup (R.map sD)), .d (sD w), .d (.bl bn), .d (.int R.length), .d (tagsD 2 R), .d (.tup ((cycS R).map sD)), .no, .no, .no, .no, .no, .no, .no, .no, .no, .no, .no]) (m := m) (h := fun d => match d with
    | .str s => sD (sg R.length s.cps.toList)
    | d => d) (by rfl) ?_).mono ?_⟩
  · intro d hd
    obtain ⟨r, hr, rfl⟩ := List.mem_map.mp hd
    refine ⟨_, rfl, ?_⟩
    simp
    refine callV (law_signs_spec (by omega) (by have := ok.z r hr; omega)) ?_
    simp
    rfl
  · rintro ys s ⟨rfl, rfl⟩
    simp [backS, rep_sD]
    have e : List.map ((fun d => match d with
        | D.str s => sD (sg R.length s.cps.toList)
        | d => d) ∘ sD) R ++ List.replicate R.length (D.str (PL.st [])) = (cycS R).map sD := by
      unfold cycS
      rw [List.map_append, List.map_map, List.map_replicate]
      congr 1
    rw [e]
    refine ⟨⟨by omega, by omega⟩, by omega, ?_⟩
    refine callV (same_spec ((gd_cyc ok).upn 4)) ?_
    simp
    have hwy := way_ok0 (t := 2) ok hw (show w.length ≤ 100 by omega) (show 12 ≤ 500 by omega)
    refine callV (way_spec (t := 2) (N := 12) ok (by omega) hw (by omega) (by omega)) ?_
    revert hwy
    generalize wayGo 2 R 12 [w] = res
    intro hwy
    simp [pm]
    refine callV (cyclic_word_spec ok hw (by omega)) ?_
    simp
    refine callV (law_signs_spec (by omega) (by omega)) ?_
    simp
    refine callV (same_spec (Gd.upn (n := 0) (.str _ (by rw [sg_len]; exact Nat.le_trans (Nat.mul_le_mul h2 hl) (by decide))) 5)) ?_
    simp
    exact rings_spec ok hwy hw hl hb hB hK
theorem cyclic_right_spec {m : Store} {n : Nat} {B : Int} {R : List Wd} {w : Wd} {bn : Bool} (hb : Bx m n B) (hB : B ≤ 900000000) (ok : okR R) (hw : okW R.length w) (hl : w.length ≤ 8) :
    FnP f__law_cyclic_right [.ref n, .tup (R.map sD), sD w, .bl bn] m fun v u => v = .d (.bl true) ∧ Bx u n (B + 600) :=
  FnP.mk rfl (cyclic_body hb hB ok hw hl fun env u h => ⟨rfl, h⟩)
end Law
end

section
set_option Elab.async false
set_option linter.all false
set_option maxRecDepth 100000
set_option maxHeartbeats 0
namespace Law
open PySem PySem.Spec PyProof.Rows L2 PL
def _law_collatz_right_L1' : S → Fl :=
    (sSeq (sPar [4, 5] (wCons (cCall f__law_next_tag (cCons (cC (.int 2)) (cCons (cFz (cTup (cCons (cC (.str "bc")) (cCons (cC (.str "a")) (cCons (cC (.str "aaa")) cNil))))) (cCons (cVar 4) cNil))) []) (wCons (cOp2 gAdd (.v 5) (.e (cC (.int 1)))) wNil)))
    (sIf (cB (cOp2 gEq (.e (cFz (cComp (iSeq (cVar 4)) (.n 7) [7] (cB (cOp2 gNe (.v 7) (.e (cC (.str "a"))))) (cVar 7)))) (.e (cFz (cLst cNil)))))
    (sExpr (cMut "list" (.v 6) (cCons (cFz (cOpN gLen [.v 4])) cNil) gAppend))
    sPass))
@[irreducible] def _law_collatz_right_L1 : S → Fl := _law_collatz_right_L1'
theorem _law_collatz_right_L1_eq : _law_collatz_right_L1 = _law_collatz_right_L1' := by unfold _law_collatz_right_L1; rfl
def _law_collatz_right_L2' : S → Fl :=
    (sSeq (sSet 9 (cOp2 gIx (.v 6) (.e (cFz (cOp2 (gI2 CYes fun i j => i - j) (.v 8) (.e (cC (.int 1))))))))
    (sIf (cB (cOp2 gNe (.e (cFz (cOp2 gIx (.v 6) (.v 8)))) (.e (cFz (cIf (cB (cOp2 gEq (.e (cFz (cOp2 (gI2 CModB fun i j => i % j) (.v 9) (.e (cC (.int 2)))))) (.e (cC (.int 0))))) (cOp2 (gI2 CDivB fun i j => i / j) (.v 9) (.e (cC (.int 2)))) (cOp2 (gI2 CDivB fun i j => i / j) (.e (cFz (cOp2 gAdd (.e (cFz (cOp2 gMul (.e (cC (.int 3))) (.v 9)))) (.e (cC (.int 1)))))) (.e (cC (.int 2)))))))))
    (sRet (cD (cC (.bl false))))
    sPass))
@[irreducible] def _law_collatz_right_L2 : S → Fl := _law_collatz_right_L2'
theorem _law_collatz_right_L2_eq : _law_collatz_right_L2 = _law_collatz_right_L2' := by unfold _law_collatz_right_L2; rfl
def _law_collatz_right_L3' : S → Fl :=
    (sSeq (sIf (cOr (cB (cOp2 (gB2 fun i j => decide (j < i)) (.e (cFz (cOpN gLen [.v 11]))) (.e (cC (.int 60))))) (cB (cOp2 gEq (.v 11) (.e (cC (.str "a"))))))
    sBreak
    sPass)
    (sSet 11 (cCall f_next_tag (cCons (cVar 2) (cCons (cVar 11) cNil)) [])))
@[irreducible] def _law_collatz_right_L3 : S → Fl := _law_collatz_right_L3'
theorem _law_collatz_right_L3_eq : _law_collatz_right_L3 = _law_collatz_right_L3' := by unfold _law_collatz_right_L3; rfl
def _law_collatz_right_T1' : S → Fl :=
    (sIf (cAnd (cB (cOp2 (gB2 fun i j => decide (j < i)) (.e (cFz (cOp2 gIx (.v 6) (.v 10)))) (.e (cC (.int 1))))) (cAnd (cB (cOp2 (gB2 fun i j => decide (i < j)) (.e (cFz (cOp2 gIx (.v 6) (.v 10)))) (.e (cC (.int 30))))) (cNot (cB (cCall (f__law_same 6) (cCons (cVar 11) (cCons (cFz (cOp2 gMul (.e (cC (.str "a"))) (.e (cFz (cOp2 gIx (.v 6) (.e (cFz (cOp2 gAdd (.v 10) (.e (cC (.int 1))))))))))) cNil)) [])))))
    (sRet (cD (cC (.bl false))))
    sPass)
@[irreducible] def _law_collatz_right_T1 : S → Fl := _law_collatz_right_T1'
theorem _law_collatz_right_T1_eq : _law_collatz_right_T1 = _law_collatz_right_T1' := by unfold _law_collatz_right_T1; rfl
def _law_collatz_right_T2' : S → Fl :=
    (sSeq (sSet 10 (cCall f__law_take (cCons (cRef 0) (cCons (cFz (cOpN gLen [.v 6])) cNil)) []))
    (sSeq (sSet 11 (cOp2 gMul (.e (cC (.str "a"))) (.e (cFz (cOp2 gIx (.v 6) (.v 10))))))
    (sSeq (sFor (iRng gRng1 (cCons (cFz (cIf (cB (cOp2 gEq (.e (cFz (cOp2 (gI2 CModB fun i j => i % j) (.e (cFz (cOp2 gIx (.v 6) (.v 10)))) (.e (cC (.int 2)))))) (.e (cC (.int 0))))) (cOp2 gIx (.v 6) (.v 10)) (cOp2 gAdd (.e (cFz (cOp2 gIx (.v 6) (.v 10)))) (.e (cC (.int 1)))))) cNil)) (gN 12)
    _law_collatz_right_L3)
    _law_collatz_right_T1)))
@[irreducible] def _law_collatz_right_T2 : S → Fl := _law_collatz_right_T2'
theorem _law_collatz_right_T2_eq : _law_collatz_right_T2 = _law_collatz_right_T2' := by unfold _law_collatz_right_T2; rfl
def _law_collatz_right_T3' : S → Fl :=
    (sSeq (sIf (cNot (cB (cCall (f__law_same 6) (cCons (cFz (cIf (cB (cD (cVar 1))) (cCallK f_collatz_steps cNil (cCons (cVar 3) cNil) [0]) (cCall f_collatz_steps (cCons (cVar 3) cNil) []))) (cCons (cVar 5) cNil)) [])))
    (sRet (cD (cC (.bl false))))
    sPass)
    (sSeq (sFor (iRng gRng2 (cCons (cC (.int 1)) (cCons (cFz (cOpN gLen [.v 6])) cNil))) (gN 8)
    _law_collatz_right_L2)
    _law_collatz_right_T2))
@[irreducible] def _law_collatz_right_T3 : S → Fl := _law_collatz_right_T3'
theorem _law_collatz_right_T3_eq : _law_collatz_right_T3 = _law_collatz_right_T3' := by unfold _law_collatz_right_T3; rfl
def _law_collatz_right_L4' : S → Fl :=
    (sSeq (sPar [4, 5, 6] (wCons (cOp2 gMul (.e (cC (.str "a"))) (.v 3)) (wCons (cD (cC (.int 0))) (wCons (cLst (cCons (cVar 3) cNil)) wNil))))
    (sSeq (sWhile 1000000 (cB (cOp2 gNe (.v 4) (.e (cC (.str "a")))))
    _law_collatz_right_L1)
    _law_collatz_right_T3))
@[irreducible] def _law_collatz_right_L4 : S → Fl := _law_collatz_right_L4'
theorem _law_collatz_right_L4_eq : _law_collatz_right_L4 = _law_collatz_right_L4' := by unfold _law_collatz_right_L4; rfl
def c__law_collatz_right : S → Fl :=
    (sSeq (sSet 2 (cCall f_collatz_tags cNil []))
    (sSeq (sIf (cOr (cNot (cB (cOpN (gIsi ["Tags"]) [.v 2, .e (cC (.cls "Tags"))]))) (cNot (cB (cCall (f__law_same 6) (cCons (cFz (cLst (cCons (cFz (cOp1 (gFld ["Tags"] "take") (.v 2))) (cCons (cFz (cOp1 (gFld ["Tags"] "rules") (.v 2))) cNil)))) (cCons (cFz (cLst (cCons (cC (.int 2)) (cCons (cFz (cTup (cCons (cC (.str "bc")) (cCons (cC (.str "a")) (cCons (cC (.str "aaa")) cNil))))) cNil)))) cNil)) []))))
    (sRet (cD (cC (.bl false))))
    sPass)
    (sSeq (sFor (iSeq (cFz (cLst (cCons (cFz (cOp2 gAdd (.e (cC (.int 1))) (.e (cFz (cCall f__law_take (cCons (cRef 0) (cCons (cC (.int 8)) cNil)) []))))) (cCons (cFz (cOp2 gAdd (.e (cC (.int 1))) (.e (cFz (cCall f__law_take (cCons (cRef 0) (cCons (cC (.int 26)) cNil)) []))))) cNil))))) (gN 3)
    _law_collatz_right_L4)
    (sRet (cD (cC (.bl true)))))))
theorem b__law_collatz_right_eq : b__law_collatz_right = c__law_collatz_right := by
  unfold c__law_collatz_right
  rw [_law_collatz_right_L4_eq]; unfold _law_collatz_right_L4'
  rw [_law_collatz_right_T3_eq]; unfold _law_collatz_right_T3'
  rw [_law_collatz_right_T2_eq]; unfold _law_collatz_right_T2'
  rw [_law_collatz_right_T1_eq]; unfold _law_collatz_right_T1'
  rw [_law_collatz_right_L3_eq]; unfold _law_collatz_right_L3'
  rw [_law_collatz_right_L2_eq]; unfold _law_collatz_right_L2'
  rw [_law_collatz_right_L1_eq]; unfold _law_collatz_right_L1'
  rfl
def _law_right_L1' : S → Fl :=
    (sSeq (sUnp (cFz (cCall f__law_drawn (cCons (cRef 0) cNil) [])) (gT [gN 3, gN 4, gN 5]))
    (sIf (cOr (cNot (cB (cCall f__law_tags_right (cCons (cRef 0) (cCons (cVar 3) (cCons (cVar 4) (cCons (cVar 5) (cCons (cVar 1) cNil))))) []))) (cNot (cB (cCall f__law_cyclic_right (cCons (cRef 0) (cCons (cFz (cOpN gTupleS [.e (cFz (cComp (iSeq (cVar 4)) (.n 6) [6] cYes (cFz (cSl (.v 6) .none (.e (cC (.int 8)))))))])) (cCons (cFz (cSl (.v 5) .none (.e (cC (.int 6))))) (cCons (cFz (cNotV (cD (cVar 1)))) cNil)))) []))))
    (sRet (cD (cC (.bl false))))
    sPass))
@[irreducible] def _law_right_L1 : S → Fl := _law_right_L1'
theorem _law_right_L1_eq : _law_right_L1 = _law_right_L1' := by unfold _law_right_L1; rfl
def _law_right_T1' : S → Fl :=
    (sRet (cAndV (cCall f__law_any_cyclic_right (cCons (cRef 0) (cCons (cVar 1) cNil)) []) (cCall f__law_collatz_right (cCons (cRef 0) (cCons (cFz (cNotV (cD (cVar 1)))) cNil)) [])))
@[irreducible] def _law_right_T1 : S → Fl := _law_right_T1'
theorem _law_right_T1_eq : _law_right_T1 = _law_right_T1' := by unfold _law_right_T1; rfl
def c__law_right : S → Fl :=
    (sSeq (sSet 1 (cOp2 gEq (.e (cFz (cCall f__law_take (cCons (cRef 0) (cCons (cC (.int 2)) cNil)) []))) (.e (cC (.int 1)))))
    (sSeq (sFor (iRng gRng1 (cCons (cC (.int 2)) cNil)) (gN 2)
    _law_right_L1)
    _law_right_T1))
theorem b__law_right_eq : b__law_right = c__law_right := by
  unfold c__law_right
  rw [_law_right_T1_eq]; unfold _law_right_T1'
  rw [_law_right_L1_eq]; unfold _law_right_L1'
  rfl
end Law
end

section
set_option Elab.async false
set_option linter.all false
set_option maxRecDepth 100000
set_option maxHeartbeats 1000000
namespace Law
open PySem PySem.Spec PyProof PyProof.Rows L2 PL
theorem colT_int (n : Nat) : ((colT n : Nat) : Int) = if (n : Int) % 2 = 0 then (n : Int) / 2 else (3 * (n : Int) + 1) / 2 := by
  unfold colT
  split <;> split <;> omega
theorem collatz_steps_spec {v c : Nat} (h1 : 1 ≤ v) (h2 : v ≤ 60) (h : colGo 1000 v 0 = some c) : pure' f_collatz_steps [.int v] (.int c) := fun m => by
  refine FnP.mk rfl ?_
  simp [b_collatz_steps]
  refine callV (is_between_spec (by omega) (by omega)) ?_
  simp
  refine whileP (fun n s => ∃ v d : Nat, s = ⟨[.d (.int v), .d (.int d)], m⟩ ∧ colGo n v d = some c) ?_ 1000 _ _ (by decide) ⟨v, 0, rfl, h⟩
  rintro n _ ⟨v, d, rfl, h⟩
  simp
  cases n with
  | zero => cases h
  | succ n =>
    unfold colGo at h
    have m1 : CMulB 3 (v : Int) = true := cmul_small (by omega)
    have m2 : CModB (v : Int) 2 = true := rfl
    have m3 : ∀ z : Int, CDivB z 2 = true := fun _ => rfl
    by_cases c0 : 1 < v
    · rw [if_pos c0] at h
      simp [show (1 : Int) < v by omega, m1, m2, m3]
      by_cases c1 : v % 2 = 0
      · rw [if_pos (show (v : Int) % 2 = 0 by omega)]
        refine ⟨colT v, _, ⟨?_, ?_⟩, h⟩
        · unfold colT; rw [if_pos c1]; omega
        · omega
      · rw [if_neg (show ¬ (v : Int) % 2 = 0 by omega)]
        refine ⟨colT v, _, ⟨?_, ?_⟩, h⟩
        · unfold colT; rw [if_neg c1]; omega
        · omega
    · rw [if_neg c0] at h
      cases h
      simp [show ¬ (1 : Int) < v by omega]

@[irreducible] def colTags : Cell := .ins "Tags" [("take", .int 2), ("rules", .tup (R3.map sD))]
theorem colTags_eq : colTags = .ins "Tags" [("take", .int 2), ("rules", .tup (R3.map sD))] := by unfold colTags; rfl
theorem collatz_tags_spec {m : Store} : FnP f_collatz_tags [] m fun v u => v = .nw (.ins "Tags" [("take", .int 2), ("rules", .tup (R3.map sD))]) ∧ u = m := by
  refine FnP.mk rfl ?_
  simp [b_collatz_tags]
  exact make_spec (t := 2) okR3 (by omega) ⟨rfl, rfl⟩
abbrev pI (p : List Nat) : List D := p.map fun (x : Nat) => D.int x
abbrev oT : Sl := .own (.ins "Tags" [("take", .int 2), ("rules", .tup (R3.map sD))])
theorem at_pI {p : List Nat} {k q : Nat} (h : p[k]? = some q) : atI (pI p) (k : Int) = some (.int q) := by
  rw [atI_k, List.getElem?_map, h]; rfl
theorem t1_spec {n : Nat} {u : Store} {bn : Sl} {p : List Nat} {at_ q : Nat} {a : Wd} {x2 x3 x4 x5 x7 x8 x9 x12 : Sl} {K : KF}
    (hq : p[at_]? = some q) (hq2 : 1 < q → q < 30 → ∃ r, p[at_ + 1]? = some r ∧ a = List.replicate r 97 ∧ r ≤ 1000)
    (hK : K.nx ⟨[.d (.ref n), bn, x2, x3, x4, x5, .own (.lst (pI p)), x7, x8, x9, .d (.int at_), .d (sD a), x12], u⟩) :
    FP (_law_collatz_right_T1 ⟨[.d (.ref n), bn, x2, x3, x4, x5, .own (.lst (pI p)), x7, x8, x9, .d (.int at_), .d (sD a), x12], u⟩) K := by
  have hz := line
  rw [_law_collatz_right_T1_eq]
  simp [_law_collatz_right_T1', at_pI hq]
  by_cases c1 : 1 < q
  · rw [if_pos (show (1 : Int) < q by omega)]
    by_cases c2 : q < 30
    · obtain ⟨r, hr, rfl, hr2⟩ := hq2 c1 c2
      have e1 : atI (pI p) ((at_ : Int) + 1) = some (.int r) := at_pI (k := at_ + 1) hr
      have e2 : Txt.mul (st [97]) (r : Int) = st (List.replicate r 97) := by rw [mul_one' (by omega)]; simp
      simp [show (q : Int) < 30 by omega, e1, e2]
      refine ⟨by omega, ?_⟩
      refine callV (same_spec (Gd.upn (n := 0) (.str _ (by simp; omega)) 5)) ?_
      simpa using hK
    · rw [if_neg (show ¬ (q : Int) < 30 by omega)]
      exact hK
  · rw [if_neg (show ¬ (1 : Int) < q by omega)]
    exact hK

theorem all_R3 {a : Wd} : (a.all (· == 97) = true) ↔ ∀ c ∈ a, c = 97 := by simp
/-- the loop of the package's own steps -/
theorem l3_spec {n : Nat} {u : Store} {bn : Sl} {p : List Nat} {at_ N : Nat} {a b : Wd} {x3 x4 x5 x7 x8 x9 x2 x12 : Sl} {K : KF} (hx2 : x2 = oT ∨ x2 = .d (tagsD 2 R3)) (ha : okW 3 a) (hl : a.length ≤ 1000) (h : tnGo N a = some b)
    (hK : ∀ (x2 x12 : Sl), x2 = oT ∨ x2 = .d (tagsD 2 R3) → K.nx ⟨[.d (.ref n), bn, x2, x3, x4, x5, .own (.lst (pI p)), x7, x8, x9, .d (.int at_), .d (sD b), x12], u⟩) :
    ForP (gN 12) _law_collatz_right_L3 (PL.upTo 0 N) ⟨[.d (.ref n), bn, x2, x3, x4, x5, .own (.lst (pI p)), x7, x8, x9, .d (.int at_), .d (sD a), x12], u⟩ K := by
  have hz := line
  refine forP (fun ds s => ∃ (x2 x12 : Sl) (a : Wd), s = ⟨[.d (.ref n), bn, x2, x3, x4, x5, .own (.lst (pI p)), x7, x8, x9, .d (.int at_), .d (sD a), x12], u⟩ ∧ (x2 = oT ∨ x2 = .d (tagsD 2 R3)) ∧ okW 3 a ∧ a.length ≤ 1000 ∧ tnGo ds.length a = some b) ?_ ?_ _ _ ?_
  · rintro d ds _ ⟨x2, x12, a, rfl, hx2, ha, hl, h⟩
    refine ⟨_, rfl, ?_⟩
    simp only [List.length_cons] at h
    unfold tnGo at h
    rw [_law_collatz_right_L3_eq]
    by_cases c : 60 < a.length
    · rw [if_pos (.inl c)] at h
      cases h
      simp [_law_collatz_right_L3', show (60 : Int) < b.length by omega]
      exact ⟨by omega, hK _ _ hx2⟩
    · by_cases c2 : a = [97]
      · rw [if_pos (.inr c2)] at h
        cases h
        simp [_law_collatz_right_L3', c2]
        rw [← c2]
        exact hK _ _ hx2
      · rw [if_neg (by rintro (h | h); exact c h; exact c2 h)] at h
        simp [_law_collatz_right_L3', show ¬ (60 : Int) < a.length by omega, c2]
        refine ⟨by omega, ?_⟩
        have sp := next_tag_spec (t := 2) okR3 (by omega) ha (show a.length ≤ 60 by omega)
        cases e : nxt 2 R3 a with
        | none => rw [e] at h; cases h
        | some v =>
          rw [e] at h sp
          have ov := nxt_ok okR3 ha e
          rcases hx2 with rfl | rfl
          · simp
            refine callV sp ?_
            simp [oD]
            exact ⟨_, _, v, ⟨rfl, rfl, rfl⟩, .inr rfl, ov.1, by omega, h⟩
          · simp
            refine callV sp ?_
            simp [oD]
            exact ⟨_, _, v, ⟨rfl, rfl, rfl⟩, .inr rfl, ov.1, by omega, h⟩
  · rintro _ ⟨x2, x12, a, rfl, hx2, ha, hl, h⟩
    simp only [List.length_nil] at h
    unfold tnGo at h
    cases h
    exact hK _ _ hx2
  · exact ⟨x2, x12, a, rfl, hx2, ha, hl, by simpa using h⟩

theorem chain_at {p : List Nat} : ∀ {k a b : Nat}, chainOk p = true → p[k]? = some a → p[k + 1]? = some b → b = colT a := by
  induction p with
  | nil => intro k a b _ h; simp at h
  | cons x p ih =>
    intro k a b hc h1 h2
    cases p with
    | nil => simp at h2
    | cons y r =>
      have hc : (y == colT x && chainOk (y :: r)) = true := hc
      rw [Bool.and_eq_true, beq_iff_eq] at hc
      cases k with
      | zero => simp at h1 h2; subst h1 h2; exact hc.1
      | succ k => exact ih hc.2 (by simpa using h1) (by simpa using h2)
/-- one way through the drawn number -/
structure PlOk (p : List Nat) : Prop where
  c : chainOk p = true
  r : ∀ x ∈ p, 1 ≤ x ∧ x ≤ 99
  l : p.getLast? = some 1
theorem t2_spec {n : Nat} {u : Store} {B : Int} {bn : Sl} {p : List Nat} {x3 x4 x5 x7 x8 x9 x2 x10 x11 x12 : Sl} {K : KF} (hb : Bx u n B) (hB : B ≤ 1000000000) (hp : PlOk p) (hpl : p.length ≤ 2000) (hx2 : x2 = oT ∨ x2 = .d (tagsD 2 R3))
    (hK : ∀ (m : Store) (x2 x10 x11 x12 : Sl), Bx m n (B + 1) → x2 = oT ∨ x2 = .d (tagsD 2 R3) → K.nx ⟨[.d (.ref n), bn, x2, x3, x4, x5, .own (.lst (pI p)), x7, x8, x9, x10, x11, x12], m⟩) :
    FP (_law_collatz_right_T2 ⟨[.d (.ref n), bn, x2, x3, x4, x5, .own (.lst (pI p)), x7, x8, x9, x10, x11, x12], u⟩) K := by
  have hz := line
  rw [_law_collatz_right_T2_eq]
  have hne : p ≠ [] := by rintro rfl; have := hp.l; simp at this
  have hpos := List.length_pos_iff.mpr hne
  simp [_law_collatz_right_T2']
  refine callP (take_spec (many := (p.length : Int)) hb (by omega) (by omega) (by omega)) ?_
  rintro v u2 ⟨i, rfl, hi0, hi1, hb2⟩
  obtain ⟨k, rfl⟩ := Int.eq_ofNat_of_zero_le hi0
  have hk : k < p.length := by omega
  have hq : p[k]? = some p[k] := List.getElem?_eq_getElem hk
  obtain ⟨hq1, hq2⟩ := hp.r p[k] (List.getElem_mem hk)
  revert hq hq1 hq2
  generalize p[k] = q
  intro hq hq1 hq2
  have e2 : Txt.mul (st [97]) (q : Int) = st (List.replicate q 97) := by rw [mul_one' (by omega)]; simp
  simp [at_pI hq, e2]
  have htn : tnOk q = true := List.all_eq_true.mp tn_all q (by
    have : (List.range 100).tail = List.range' 1 99 := by decide
    rw [this, List.mem_range'_1]; omega)
  unfold tnOk at htn
  have hif : (if (q : Int) % 2 = 0 then (q : Int) else (q : Int) + 1) = ((if q % 2 = 0 then q else q + 1 : Nat) : Int) := by split <;> split <;> omega
  cases e : tnGo (if q % 2 = 0 then q else q + 1) (List.replicate q 97) with
  | none => rw [e] at htn; cases htn
  | some b =>
    rw [e] at htn
    have fin : ∀ (x2 x12 : Sl), x2 = oT ∨ x2 = .d (tagsD 2 R3) → FP (_law_collatz_right_T1 ⟨[.d (.ref n), bn, x2, x3, x4, x5, .own (.lst (pI p)), x7, x8, x9, .d (.int k), .d (sD b), x12], u2⟩) K := fun x2 x12 hx => by
      refine t1_spec hq ?_ (hK _ _ _ _ _ hb2 hx)
      intro h1 h2
      have hlast := hp.l
      rw [List.getLast?_eq_getElem?] at hlast
      have hk2 : k + 1 < p.length := by
        rcases Nat.lt_or_ge (k + 1) p.length with h | h
        · exact h
        · rw [show p.length - 1 = k by omega, hq] at hlast
          injection hlast; omega
      have hr : p[k + 1]? = some p[k + 1] := List.getElem?_eq_getElem hk2
      have hT := chain_at hp.c hq hr
      refine ⟨_, hr, ?_, by have := hp.r _ (List.getElem_mem hk2); omega⟩
      simp [h1, h2] at htn
      rw [htn, hT]
    have ow : okW 3 (List.replicate q 97) := fun c hc => by have := (List.mem_replicate.mp hc).2; omega
    refine ⟨by omega, rfl, ?_⟩
    by_cases c1 : q % 2 = 0
    · rw [if_pos (show (q : Int) % 2 = 0 by omega)]
      rw [if_pos c1] at e
      exact ⟨by omega, l3_spec hx2 ow (by simp; omega) e fin⟩
    · rw [if_neg (show ¬ (q : Int) % 2 = 0 by omega)]
      rw [if_neg c1] at e
      exact ⟨⟨by omega, by omega⟩, l3_spec hx2 ow (by simp; omega) e fin⟩
theorem mem_upTo2 {a : Int} {n : Nat} {d : D} (h : d ∈ PL.upTo a n) : ∃ k : Nat, k < n ∧ d = .int (a + k) := by
  unfold PL.upTo at h
  obtain ⟨k, hk, rfl⟩ := List.mem_map.mp h
  exact ⟨k, List.mem_range.mp hk, by simp⟩
@[simp] theorem gRng2_ {i j : Int} : PL.gRng2 [.int i, .int j] = if (-(2 ^ 62) ≤ i ∧ i < 2 ^ 62) ∧ -(2 ^ 62) ≤ j ∧ j < 2 ^ 62 then some (PL.upTo i (j - i).toNat) else none := rfl
theorem t3_spec {n v c : Nat} {u : Store} {B : Int} {b : Bool} {p : List Nat} {x4 x7 x8 x9 x2 x10 x11 x12 : Sl} {K : KF} (hb : Bx u n B) (hB : B ≤ 1000000000) (hp : PlOk p) (hpl : p.length ≤ 2000) (hx2 : x2 = oT ∨ x2 = .d (tagsD 2 R3))
    (hv1 : 1 ≤ v) (hv2 : v ≤ 60) (hc : colGo 1000 v 0 = some c)
    (hK : ∀ (m : Store) (x2 x8 x9 x10 x11 x12 : Sl), Bx m n (B + 1) → x2 = oT ∨ x2 = .d (tagsD 2 R3) → K.nx ⟨[.d (.ref n), .d (.bl b), x2, .d (.int v), x4, .d (.int c), .own (.lst (pI p)), x7, x8, x9, x10, x11, x12], m⟩) :
    FP (_law_collatz_right_T3 ⟨[.d (.ref n), .d (.bl b), x2, .d (.int v), x4, .d (.int c), .own (.lst (pI p)), x7, x8, x9, x10, x11, x12], u⟩) K := by
  have hz := line
  rw [_law_collatz_right_T3_eq]
  simp [_law_collatz_right_T3', pm]
  refine callV (collatz_steps_spec hv1 hv2 hc) ?_
  simp
  refine callV (same_spec (Gd.upn (n := 0) (.int _) 5)) ?_
  simp [show (-4611686018427387904 : Int) ≤ p.length by omega, show (p.length : Int) < 4611686018427387904 by omega]
  refine forP (fun ds s => ∃ (x8 x9 : Sl), s = ⟨[.d (.ref n), .d (.bl b), x2, .d (.int v), x4, .d (.int c), .own (.lst (pI p)), x7, x8, x9, x10, x11, x12], u⟩ ∧ ∀ d ∈ ds, ∃ k : Nat, d = .int (k + 1 : Nat) ∧ k + 1 < p.length) ?_ ?_ _ _ ?_
  · rintro d ds _ ⟨x8, x9, rfl, hd⟩
    obtain ⟨k, rfl, hk⟩ := hd d (List.mem_cons_self ..)
    refine ⟨_, rfl, ?_⟩
    rw [_law_collatz_right_L2_eq]
    have h1 : p[k]? = some p[k] := List.getElem?_eq_getElem (by omega)
    have h2 : p[k + 1]? = some p[k + 1] := List.getElem?_eq_getElem hk
    have hT := chain_at hp.c h1 h2
    have hr := hp.r _ (List.getElem_mem (show k < p.length by omega))
    revert h1 h2 hT hr
    generalize p[k] = a
    generalize p[k + 1] = a'
    intro h1 h2 hT hr
    have e0 : ((k : Int) + 1) - 1 = k := by omega
    have e1 : atI (pI p) ((k : Int) + 1) = some (.int a') := at_pI (k := k + 1) h2
    have m1 : CMulB 3 (a : Int) = true := cmul_small (by omega)
    have m2 : CModB (a : Int) 2 = true := rfl
    have m3 : ∀ z : Int, CDivB z 2 = true := fun _ => rfl
    have hT2 := colT_int a
    rw [← hT] at hT2
    simp [_law_collatz_right_L2', CYes, e0, e1, at_pI h1, m1, m2, m3]
    by_cases c1 : (a : Int) % 2 = 0
    · rw [if_pos c1] at hT2 ⊢
      simp [hT2]
      exact fun d hd' => hd d (List.mem_cons_of_mem _ hd')
    · rw [if_neg c1] at hT2 ⊢
      simp [hT2]
      exact fun d hd' => hd d (List.mem_cons_of_mem _ hd')
  · rintro _ ⟨x8, x9, rfl, _⟩
    exact t2_spec hb hB hp hpl hx2 fun m x2 x10 x11 x12 => hK m x2 x8 x9 x10 x11 x12
  · refine ⟨x8, x9, rfl, fun d hd => ?_⟩
    obtain ⟨k, hk, rfl⟩ := mem_upTo2 hd
    exact ⟨k, by congr 1; omega, by omega⟩
end Law
end

section
set_option Elab.async false
set_option linter.all false
set_option maxRecDepth 100000
set_option maxHeartbeats 1000000
namespace Law
open PySem PySem.Spec PyProof PyProof.Rows L2 PL
theorem gNe_words' {l : List D} (h : ∃ w : Wd, l = w.map sgn ∧ ∀ c ∈ w, c < 128) : gEq (.lst l) (.lst []) = some (.d (.bl (decide (l = [])))) := by
  obtain ⟨w, rfl, h⟩ := h
  have e0 : w.map sgn = (w.map fun c => [c]).map sD := by simp
  rw [e0]
  obtain ⟨h1, h2⟩ := lay_words (w.map fun c => [c]) (fun v hv c hc => by
    obtain ⟨x, hx, rfl⟩ := List.mem_map.mp hv
    simp at hc
    subst hc
    exact h _ hx)
  generalize w.map (fun c => [c]) = l at *
  have e1 : toPy (.lst (l.map sD)) = some (.list (l.map fun w => PyData.str (st w))) := by unfold toPy; rw [toPys_words]; rfl
  have e2 : toPy (.lst []) = some (.list []) := by unfold toPy toPys; rfl
  have e : eqD (.lst (l.map sD)) (.lst []) = (toPy (.lst (l.map sD))).bind fun p => (toPy (.lst [])).bind fun q => if SeqAt.shaped p = true ∧ SeqAt.shaped q = true then some (PyData.eqv p q) else none := rfl
  unfold gEq
  rw [e, e1, e2, Option.bind_some, Option.bind_some, if_pos ⟨by unfold SeqAt.shaped; simp [PyData.canLay0, PyData.depth, h1, h2], by decide⟩]
  cases l <;> simp [PyData.eqv]
  all_goals rfl
theorem l4_spec {n v : Nat} {u : Store} {B : Int} {b : Bool} {x4 x5 x6 x7 x8 x9 x2 x10 x11 x12 : Sl} {K : KF} (hb : Bx u n B) (hB : B ≤ 1000000000) (hx2 : x2 = oT ∨ x2 = .d (tagsD 2 R3)) (h7 : x7.isOwn = false)
    (hv1 : 1 ≤ v) (hv2 : v ≤ 26)
    (hK : ∀ (m : Store) (x2 x4 x5 x6 x8 x9 x10 x11 x12 : Sl), Bx m n (B + 1) → x2 = oT ∨ x2 = .d (tagsD 2 R3) → K.nx ⟨[.d (.ref n), .d (.bl b), x2, .d (.int v), x4, x5, x6, x7, x8, x9, x10, x11, x12], m⟩) :
    FP (_law_collatz_right_L4 ⟨[.d (.ref n), .d (.bl b), x2, .d (.int v), x4, x5, x6, x7, x8, x9, x10, x11, x12], u⟩) K := by
  have hz := line
  rw [_law_collatz_right_L4_eq]
  have e2 : Txt.mul (st [97]) (v : Int) = st (List.replicate v 97) := by rw [mul_one' (by omega)]; simp
  have hok : czOk v = true := List.all_eq_true.mp cz_all v (by
    have : (List.range 27).tail = List.range' 1 26 := by decide
    rw [this, List.mem_range'_1]; omega)
  unfold czOk at hok
  cases e : czGo 3000 (List.replicate v 97) 0 [v] with
  | none => rw [e] at hok; cases hok
  | some cp =>
    obtain ⟨c, p⟩ := cp
    rw [e] at hok
    simp at hok
    obtain ⟨⟨⟨hc, hch⟩, hr⟩, hlast⟩ := hok
    have hp : PlOk p := ⟨hch, hr, hlast⟩
    simp [_law_collatz_right_L4', e2]
    refine ⟨by omega, ?_⟩
    refine whileP (fun N s => ∃ (w : Wd) (d : Nat) (q : List Nat), s = ⟨[.d (.ref n), .d (.bl b), x2, .d (.int v), .d (sD w), .d (.int d), .own (.lst (pI q)), x7, x8, x9, x10, x11, x12], u⟩ ∧ okW 3 w ∧ czGo N w d q = some (c, p)) ?_ 3000 _ _ (by decide) ⟨List.replicate v 97, 0, [v], rfl, fun c hc => by have := (List.mem_replicate.mp hc).2; omega, e⟩
    rintro N _ ⟨w, d, q, rfl, hw, h⟩
    cases N with
    | zero => cases h
    | succ N =>
      unfold czGo at h
      by_cases g1 : w.length > 1000 ∨ q.length > 1000
      · rw [if_pos g1] at h; cases h
      · rw [if_neg g1] at h
        by_cases g2 : w = [97]
        · rw [if_pos g2] at h
          cases h
          simp [g2]
          exact t3_spec hb hB hp (by omega) hx2 hv1 (by omega) hc fun m x2 x8 x9 x10 x11 x12 hb hx => hK m x2 _ _ _ x8 x9 x10 x11 x12 hb hx
        · rw [if_neg g2] at h
          have sp := law_next_tag_spec (t := 2) okR3 (by omega) hw (show w.length ≤ 1000000 by omega)
          simp [g2, _law_collatz_right_L1_eq, _law_collatz_right_L1', R3_eq]
          refine callV sp ?_
          cases e : nxt 2 R3 w with
          | none => rw [e] at h; cases h
          | some a =>
            rw [e] at h
            have oa := nxt_ok okR3 hw e
            simp [oD]
            refine compC ?_
            simp [h7]
            refine ⟨by omega, (compF (E := [.d (.ref n), .d (.bl b), x2, .d (.int v), .d (sD a), .d (.int ((d : Int) + 1)), .own (.lst (pI q)), .no, x8, x9, x10, x11, x12]) (m := u) (p := fun d => match d with
              | .str s => !decide (s = st [97])
              | _ => false) (h := fun d => d) (by rfl) ?_).mono ?_⟩
            · intro d hd
              obtain ⟨c, hc, rfl⟩ := List.mem_map.mp hd
              refine ⟨_, rfl, ?_⟩
              simp
              exact ⟨rfl, fun _ => rfl⟩
            · rintro ys s ⟨hys, rfl⟩
              have e4 : ys = (a.filter fun c => !decide (c = 97)).map sgn := by
                rw [hys, List.map_id', List.filter_map]
                congr 1
                apply List.filter_congr
                intro c hc
                simp
              have e5 := gNe_words' (l := ys) ⟨_, e4, fun c hc => by have := oa.1 c (List.mem_filter.mp hc).1; have : R3.length = 3 := rfl; omega⟩
              simp [backS, e5]
              dsimp only at h
              have e6 : (ys = []) ↔ a.all (· == 97) = true := by
                rw [e4]
                simp
              by_cases c7 : a.all (· == 97) = true
              · rw [if_pos (e6.mpr c7)]
                rw [if_pos c7] at h
                simp [show a.length ≤ sizeLine by omega, show q.length < sizeLine by omega]
                exact ⟨a, d + 1, q ++ [a.length], ⟨rfl, by simp, by simp⟩, oa.1, h⟩
              · rw [if_neg (fun h => c7 (e6.mp h))]
                rw [if_neg c7] at h
                exact ⟨a, d + 1, q, ⟨rfl, by simp, rfl⟩, oa.1, h⟩

theorem gd_R3 : Gd 3 (.lst [.int 2, .tup (R3.map sD)]) := by
  refine .lst (fun x hx => ?_) (by simp)
  simp at hx
  rcases hx with rfl | rfl
  · exact .int _
  · refine .tup (fun x hx => ?_) (by decide)
    obtain ⟨v, hv, rfl⟩ := List.mem_map.mp hx
    exact .str _ (by have := okR3.z v hv; omega)
theorem collatz_body {m : Store} {n : Nat} {B : Int} {bn : Bool} {K : KF} (hb : Bx m n B) (hB : B ≤ 900000000)
    (hK : ∀ env u, Bx u n (B + 4) → K.rt (.d (.bl true)) ⟨env, u⟩) :
    FP (b__law_collatz_right ⟨[.d (.ref n), .d (.bl bn), .no, .no, .no, .no, .no, .no, .no, .no, .no, .no, .no], m⟩) K := by
  have hz := line
  have hI := isi_cls (C := "Tags") (C2 := "Tags") (Cs := ["Tags"]) (fs := ["take", "rules"]) (x := [D.int 2, D.tup (R3.map sD)]) (by simp) (by simp)
  rw [b__law_collatz_right_eq]
  simp [c__law_collatz_right, pm]
  refine callP collatz_tags_spec ?_
  rintro v u ⟨rfl, rfl⟩
  simp [hI, R3_eq]
  refine callV (same_spec (gd_R3.upn 2)) ?_
  simp
  refine callP (take_spec (many := 8) hb (by omega) (by decide) (by decide)) ?_
  rintro v u ⟨i, rfl, hi0, hi1, hb⟩
  simp
  refine callP (take_spec (many := 26) hb (by omega) (by decide) (by decide)) ?_
  rintro v u ⟨j, rfl, hj0, hj1, hb⟩
  simp
  refine forP (fun ds s => ∃ (x2 x3 x4 x5 x6 x8 x9 x10 x11 x12 : Sl) (m : Store), s = ⟨[.d (.ref n), .d (.bl bn), x2, x3, x4, x5, x6, .no, x8, x9, x10, x11, x12], m⟩ ∧ (x2 = oT ∨ x2 = .d (tagsD 2 R3)) ∧ ds.length ≤ 2 ∧ Bx m n (B + 2 + (2 - ds.length)) ∧ ∀ d ∈ ds, ∃ k : Nat, d = .int k ∧ 1 ≤ k ∧ k ≤ 26) ?_ ?_ _ _ ?_
  · rintro d ds _ ⟨x2, x3, x4, x5, x6, x8, x9, x10, x11, x12, m, rfl, hx2, hl, hb, hd⟩
    obtain ⟨k, rfl, hk1, hk2⟩ := hd d (List.mem_cons_self ..)
    simp only [List.length_cons] at hl hb
    refine ⟨_, rfl, ?_⟩
    refine l4_spec hb (by omega) hx2 rfl hk1 hk2 ?_
    intro m y2 y4 y5 y6 y8 y9 y10 y11 y12 hb2 hy2
    exact ⟨y2, _, y4, y5, y6, y8, y9, y10, y11, y12, m, rfl, hy2, by omega, hb2.up (by omega), fun d hd' => hd d (List.mem_cons_of_mem _ hd')⟩
  · rintro _ ⟨x2, x3, x4, x5, x6, x8, x9, x10, x11, x12, m, rfl, hx2, hl, hb, hd⟩
    simp
    exact hK _ _ (hb.up (by simp; omega))
  · refine ⟨oT, _, _, _, _, _, _, _, _, _, u, rfl, .inl rfl, by simp, hb.up (by simp; omega), ?_⟩
    intro d hd
    simp at hd
    rcases hd with rfl | rfl
    · exact ⟨(1 + i).toNat, by congr 1; omega, by omega, by omega⟩
    · exact ⟨(1 + j).toNat, by congr 1; omega, by omega, by omega⟩
theorem collatz_right_spec {m : Store} {n : Nat} {B : Int} {bn : Bool} (hb : Bx m n B) (hB : B ≤ 900000000) :
    FnP f__law_collatz_right [.ref n, .bl bn] m fun v u => v = .d (.bl true) ∧ Bx u n (B + 4) :=
  FnP.mk rfl (collatz_body hb hB fun env u h => ⟨rfl, h⟩)
end Law
end

section
set_option Elab.async false
set_option linter.all false
set_option maxRecDepth 100000
set_option maxHeartbeats 1000000
namespace Law
open PySem PySem.Spec PyProof PyProof.Rows L2 PL
theorem right_spec {m : Store} {n : Nat} (hb : Bx m n 0) : FnP f__law_right [.ref n] m fun v _ => v = .d (.bl true) := by
  have hz := line
  refine FnP.mk rfl ?_
  rw [b__law_right_eq]
  simp [c__law_right]
  refine callP (take_spec (many := 2) hb (by omega) (by decide) (by decide)) ?_
  rintro v u ⟨i, rfl, hi0, hi1, hb⟩
  simp
  generalize decide (i = 1) = bn
  refine forP (fun ds s => ∃ (x2 x3 x4 x5 : Sl) (m : Store), s = ⟨[.d (.ref n), .d (.bl bn), x2, x3, x4, x5, .no], m⟩ ∧ ds.length ≤ 2 ∧ Bx m n (1 + 1000 * (2 - ds.length))) ?_ ?_ _ _ ?_
  · rintro d ds _ ⟨x2, x3, x4, x5, m, rfl, hl, hb⟩
    simp only [List.length_cons] at hl hb
    refine ⟨_, rfl, ?_⟩
    rw [_law_right_L1_eq]
    simp [_law_right_L1']
    refine callP (drawn_spec hb (by omega)) ?_
    rintro v u ⟨t, R, w, rfl, ht, ok, hw, hwl, hb⟩
    simp
    refine callP (tags_right_spec hb (by omega) ok ht hw hwl) ?_
    rintro v u ⟨rfl, hb⟩
    simp
    refine compC ?_
    simp
    have h1 := ok.l
    have h2 := ok.u
    refine ⟨by omega, (compM (E := [.d (.ref n), .d (.bl bn), .d d, .d (.int t), .d (.tup (R.map sD)), .d (sD w), .no]) (m := u) (h := fun d => match d with
      | .str s => .str (st (s.cps.toList.take 8))
      | d => d) (by rfl) ?_).mono ?_⟩
    · intro d hd
      obtain ⟨r, hr, rfl⟩ := List.mem_map.mp hd
      refine ⟨_, rfl, ?_⟩
      have e1 : cutS (st r) none (some 8) = st (r.take 8) := by rw [cutS_st, cut_upto (by decide)]; rfl
      simp [-cutS_st, e1, show r.length ≤ sizeLine by have := ok.z r hr; omega]
      rfl
    · rintro ys s ⟨rfl, rfl⟩
      have e2 : (R.map sD).map (fun d => match d with
        | .str s => D.str (st (s.cps.toList.take 8))
        | d => d) = (R.map (·.take 8)).map sD := by
        rw [List.map_map, List.map_map]
        apply List.map_congr_left
        intro r hr
        simp
      have e3 : cutS (st w) none (some 6) = st (w.take 6) := by rw [cutS_st, cut_upto (by decide)]; rfl
      rw [e2]
      have ok2 := ok.take1 8
      simp [backS, -cutS_st, e3, show w.length ≤ sizeLine by omega, -List.map_map]
      refine callP (cyclic_right_spec hb (by omega) ok2 (fun c hc => by rw [List.length_map]; exact hw c (List.mem_of_mem_take hc)) (by simp; omega)) ?_
      rintro v u ⟨rfl, hb⟩
      simp
      exact ⟨_, _, _, _, u, ⟨⟨rfl, rfl, rfl, rfl⟩, rfl⟩, by omega, hb.up (by omega)⟩
  · rintro _ ⟨x2, x3, x4, x5, m, rfl, hl, hb⟩
    rw [_law_right_T1_eq]
    simp [_law_right_T1']
    refine callP (any_cyclic_spec (hb.up (B' := 3000) (by simp)) (by omega)) ?_
    rintro v u ⟨rfl, hb⟩
    simp
    refine callP (collatz_right_spec hb (by omega)) ?_
    rintro v u ⟨rfl, hb⟩
    simp
  · exact ⟨.no, .no, .no, .no, u, rfl, by simp, by simpa using hb⟩
def absI (g : Int) : Int := if g < 0 then -g else g
theorem box_spec {m : Store} {g : Int} : FnP f__law_box [.int g] m fun v u => u = m ∧ v = .nw (.lst [.int (absI g), .bl (decide (1000000000000000000 ≤ absI g)), .int (absI g % 2147483629), .int 0]) := by
  refine FnP.mk rfl ?_
  have e1 : CPowB 10 18 = true := by decide
  have e3 : ∀ z : Int, CModB z 2147483629 = true := fun z => rfl
  simp [b__law_box, e1, e3, absI]
  exact decide_eq_decide.mpr Iff.rfl
theorem cell_spec {m : Store} {ns : List Int} {k : Nat} (hk : k ≤ 1000) (hl : ns.length ≤ 1000) : FnP f__law_cell [.scr ns, .int k] m fun v u => u = m ∧ ∃ i, v = .d (.int i) := by
  refine FnP.mk rfl ?_
  have e3 : ∀ z : Int, CModB z 1000033 = true := fun z => rfl
  have e4 : CMulB 6007 (k : Int) = true := cmul_small (by omega)
  have e5 : PL.cutD (ns.map D.int) none (some 1) = (ns.take 1).map D.int := by
    rw [List.map_take]; exact cutD_take (k := 1)
  simp [b__law_cell, e3, e4, e5, atI_k, -List.map_take]
  by_cases c : k < ns.length
  · simp [c]
  · simp [c]
theorem plain : PL.Plain f_law 63 := by
  intro ns hl _
  have key : FnP f_law [.scr ns] [] fun w _ => w = .d (.bl true) := by
    refine FnP.mk rfl ?_
    simp [b_law]
    refine forP (fun ds s => ∃ (x1 : Sl) (m : Store), s = ⟨[.d (.scr ns), x1], m⟩ ∧ ∀ d ∈ ds, ∃ k : Nat, d = .int k ∧ k < 3) ?_ ?_ _ _ ?_
    · rintro d ds _ ⟨x1, m, rfl, hd⟩
      obtain ⟨k, rfl, hk⟩ := hd d (List.mem_cons_self ..)
      refine ⟨_, rfl, ?_⟩
      simp
      refine callP (cell_spec (by omega) (by omega)) ?_
      rintro v u ⟨rfl, i, rfl⟩
      simp
      refine callP box_spec ?_
      rintro v u2 ⟨rfl, rfl⟩
      simp
      refine callP (right_spec (n := u2.length) ?_) ?_
      · refine ⟨absI i, decide (1000000000000000000 ≤ absI i), absI i % 2147483629, 0, by simp, ?_, ?_, ?_, by omega, by omega⟩
        · unfold absI; split <;> omega
        · exact Int.emod_nonneg _ (by decide)
        · have := Int.emod_lt_of_pos (absI i) (show (0 : Int) < 2147483629 by decide)
          omega
      · rintro v u rfl
        simp
        exact fun d hd' => hd d (List.mem_cons_of_mem _ hd')
    · rintro _ ⟨x1, m, rfl, hd⟩
      simp
    · refine ⟨.no, [], rfl, fun d hd => ?_⟩
      obtain ⟨k, hk, rfl⟩ := mem_upTo hd
      exact ⟨k, rfl, hk⟩
  obtain ⟨w, t, e, rfl⟩ := key
  exact ⟨_, e⟩
end Law
end

section
set_option Elab.async false
set_option linter.all false
set_option maxRecDepth 100000
set_option maxHeartbeats 0
namespace Law
open PySem PySem.Spec PyProof.Rows L2 PL
def top (i : Nat) : Stmt := PySem.Challenge.pw_turingbench_k85_whole_tags_cyclic_ones_c.main.body.getD i (.Pass ⟨0, 0, 0, 0⟩)
def d__law_take : He.DefD := ⟨("_law_take", none), "_law_take", "_law_take", defArgs (top 65), defBody (top 65), defScope (top 65), [], []⟩
def d__law_word : He.DefD := ⟨("_law_word", none), "_law_word", "_law_word", defArgs (top 67), defBody (top 67), defScope (top 67), [], []⟩
def d__law_drawn : He.DefD := ⟨("_law_drawn", none), "_law_drawn", "_law_drawn", defArgs (top 70), defBody (top 70), defScope (top 70), [], []⟩
def d__law_same : He.DefD := ⟨("_law_same", none), "_law_same", "_law_same", defArgs (top 66), defBody (top 66), defScope (top 66), [], []⟩
def d_is_word_of : He.DefD := ⟨("is_word_of", none), "is_word_of", "is_word_of", defArgs (top 14), defBody (top 14), defScope (top 14), [], []⟩
def d_check_signs : He.DefD := ⟨("check_signs", none), "check_signs", "check_signs", defArgs (top 40), defBody (top 40), defScope (top 40), [], []⟩
def d_is_integer : He.DefD := ⟨("is_integer", none), "is_integer", "is_integer", defArgs (top 11), defBody (top 11), defScope (top 11), [], []⟩
def d_is_between : He.DefD := ⟨("is_between", none), "is_between", "is_between", defArgs (top 12), defBody (top 12), defScope (top 12), [], []⟩
def d_check_steps : He.DefD := ⟨("check_steps", none), "check_steps", "check_steps", defArgs (top 17), defBody (top 17), defScope (top 17), [.int 2000], []⟩
def d_is_system_cyclic : He.DefD := ⟨("is_system_cyclic", none), "is_system", "is_system", defArgs (top 38), defBody (top 38), defScope (top 38), [], []⟩
def d_cyclic_run : He.DefD := ⟨("cyclic_run", none), "cyclic_run", "cyclic_run", defArgs (top 41), defBody (top 41), defScope (top 41), [], []⟩
def d__law_cyclic : He.DefD := ⟨("_law_cyclic", none), "_law_cyclic", "_law_cyclic", defArgs (top 75), defBody (top 75), defScope (top 75), [], []⟩
def d__law_any_cyclic_right : He.DefD := ⟨("_law_any_cyclic_right", none), "_law_any_cyclic_right", "_law_any_cyclic_right", defArgs (top 76), defBody (top 76), defScope (top 76), [], []⟩
def d_are_rules : He.DefD := ⟨("are_rules", none), "are_rules", "are_rules", defArgs (top 24), defBody (top 24), defScope (top 24), [], []⟩
def d_Tags_init : He.DefD := ⟨("Tags", some "__init__"), "__init__", "Tags.__init__", defArgs (inClass (top 25) 0), defBody (inClass (top 25) 0), defScope (inClass (top 25) 0), [], []⟩
def d_collatz_tags : He.DefD := ⟨("collatz_tags", none), "collatz_tags", "collatz_tags", defArgs (top 60), defBody (top 60), defScope (top 60), [], []⟩
def d_check_word : He.DefD := ⟨("check_word", none), "check_word", "check_word", defArgs (top 26), defBody (top 26), defScope (top 26), [], []⟩
def d_stepped : He.DefD := ⟨("stepped", none), "stepped", "stepped", defArgs (top 27), defBody (top 27), defScope (top 27), [], []⟩
def d_next_tag : He.DefD := ⟨("next_tag", none), "next_tag", "next_tag", defArgs (top 28), defBody (top 28), defScope (top 28), [], []⟩
def d__law_next_tag : He.DefD := ⟨("_law_next_tag", none), "_law_next_tag", "_law_next_tag", defArgs (top 68), defBody (top 68), defScope (top 68), [], []⟩
def d_collatz_steps : He.DefD := ⟨("collatz_steps", none), "collatz_steps", "collatz_steps", defArgs (top 61), defBody (top 61), defScope (top 61), [], []⟩
def d__law_collatz_right : He.DefD := ⟨("_law_collatz_right", none), "_law_collatz_right", "_law_collatz_right", defArgs (top 77), defBody (top 77), defScope (top 77), [], []⟩
def d__law_way : He.DefD := ⟨("_law_way", none), "_law_way", "_law_way", defArgs (top 69), defBody (top 69), defScope (top 69), [], []⟩
def d_is_tuple_of : He.DefD := ⟨("is_tuple_of", none), "is_tuple_of", "is_tuple_of", defArgs (top 13), defBody (top 13), defScope (top 13), [], []⟩
def d_are_names : He.DefD := ⟨("are_names", none), "are_names", "are_names", defArgs (top 56), defBody (top 56), defScope (top 56), [], []⟩
def d_is_name : He.DefD := ⟨("is_name", none), "is_name", "is_name", defArgs (top 55), defBody (top 55), defScope (top 55), [], []⟩
def d_is_system_machinetags : He.DefD := ⟨("is_system_machinetags", none), "is_system", "is_system", defArgs (top 57), defBody (top 57), defScope (top 57), [], []⟩
def d_great_run : He.DefD := ⟨("great_run", none), "great_run", "great_run", defArgs (top 59), defBody (top 59), defScope (top 59), [], []⟩
def d_check_run : He.DefD := ⟨("check_run", none), "check_run", "check_run", defArgs (top 30), defBody (top 30), defScope (top 30), [], []⟩
def d_ran : He.DefD := ⟨("ran", none), "ran", "ran", defArgs (top 29), defBody (top 29), defScope (top 29), [], []⟩
def d_tag_run : He.DefD := ⟨("tag_run", none), "tag_run", "tag_run", defArgs (top 31), defBody (top 31), defScope (top 31), [], []⟩
def d_tag_fate : He.DefD := ⟨("tag_fate", none), "tag_fate", "tag_fate", defArgs (top 32), defBody (top 32), defScope (top 32), [], []⟩
def d__law_tags_right : He.DefD := ⟨("_law_tags_right", none), "_law_tags_right", "_law_tags_right", defArgs (top 71), defBody (top 71), defScope (top 71), [], []⟩
def d_check_tags : He.DefD := ⟨("check_tags", none), "check_tags", "check_tags", defArgs (top 42), defBody (top 42), defScope (top 42), [], []⟩
def d_signs_of : He.DefD := ⟨("signs_of", none), "signs_of", "signs_of", defArgs (top 43), defBody (top 43), defScope (top 43), [], []⟩
def d_to_cyclic : He.DefD := ⟨("to_cyclic", none), "to_cyclic", "to_cyclic", defArgs (top 44), defBody (top 44), defScope (top 44), [], []⟩
def d_cyclic_word : He.DefD := ⟨("cyclic_word", none), "cyclic_word", "cyclic_word", defArgs (top 45), defBody (top 45), defScope (top 45), [], []⟩
def d__law_signs : He.DefD := ⟨("_law_signs", none), "_law_signs", "_law_signs", defArgs (top 72), defBody (top 72), defScope (top 72), [], []⟩
def d_from_cyclic_word : He.DefD := ⟨("from_cyclic_word", none), "from_cyclic_word", "from_cyclic_word", defArgs (top 46), defBody (top 46), defScope (top 46), [], []⟩
def d__law_letters : He.DefD := ⟨("_law_letters", none), "_law_letters", "_law_letters", defArgs (top 73), defBody (top 73), defScope (top 73), [], []⟩
def d__law_cyclic_right : He.DefD := ⟨("_law_cyclic_right", none), "_law_cyclic_right", "_law_cyclic_right", defArgs (top 74), defBody (top 74), defScope (top 74), [], []⟩
def d__law_right : He.DefD := ⟨("_law_right", none), "_law_right", "_law_right", defArgs (top 78), defBody (top 78), defScope (top 78), [], []⟩
def d__law_box : He.DefD := ⟨("_law_box", none), "_law_box", "_law_box", defArgs (top 64), defBody (top 64), defScope (top 64), [], []⟩
def d__law_cell : He.DefD := ⟨("_law_cell", none), "_law_cell", "_law_cell", defArgs (top 63), defBody (top 63), defScope (top 63), [], []⟩
def d_law : He.DefD := ⟨("law", none), "law", "law", defArgs (top 79), defBody (top 79), defScope (top 79), [], []⟩
def fn : List He.DefD := ([d__law_take, d__law_word, d__law_drawn, d__law_same, d_is_word_of, d_check_signs, d_is_integer, d_is_between, d_check_steps, d_is_system_cyclic, d_cyclic_run, d__law_cyclic, d__law_any_cyclic_right, d_are_rules, d_Tags_init, d_collatz_tags, d_check_word, d_stepped, d_next_tag, d__law_next_tag, d_collatz_steps, d__law_collatz_right, d__law_way, d_is_tuple_of, d_are_names, d_is_name, d_is_system_machinetags, d_great_run, d_check_run, d_ran] : List He.DefD) ++ ([d_tag_run, d_tag_fate, d__law_tags_right, d_check_tags, d_signs_of, d_to_cyclic, d_cyclic_word, d__law_signs, d_from_cyclic_word, d__law_letters, d__law_cyclic_right, d__law_right, d__law_box, d__law_cell, d_law] : List He.DefD)
def fa : List He.Fa := ([.str "DIGITS" "0123456789", .str "LETTERS_shapes" "abcdefghijklmnopqrstuvwxyz", .str "LETTERS_tags" "abcdef", .int "MOST_LENGTH" 1000, .int "MOST_LETTERS" 4, .int "MOST_NAMES" 200, .int "MOST_NUMBER" 60, .int "MOST_RULE_machinetags" 8, .int "MOST_RULE_tags" 8, .int "MOST_SIGNS" 48, .int "MOST_STEPS_checks" 2000, .int "MOST_STEPS_machinetags" 2000, .int "MOST_STEPS_tags" 500, .int "MOST_TAKE_machinetags" 4, .int "MOST_TAKE_tags" 4, .int "MOST_WORDS" 12, .int "MOST_WORD_machinetags" 1000, .int "MOST_WORD_tags" 60, .str "SIGNS" "01", .glo "Tags", .glo "_law_any_cyclic_right", .glo "_law_box", .glo "_law_cell", .glo "_law_collatz_right", .glo "_law_cyclic", .glo "_law_cyclic_right", .glo "_law_drawn", .glo "_law_letters", .glo "_law_next_tag", .glo "_law_right"] : List He.Fa) ++ ([.glo "_law_same", .glo "_law_signs", .glo "_law_tags_right", .glo "_law_take", .glo "_law_way", .glo "_law_word", .free "abs", .free "all", .glo "are_names", .glo "are_rules", .free "bool", .glo "check_run", .glo "check_signs", .glo "check_steps", .glo "check_tags", .glo "check_word", .glo "collatz_steps", .glo "collatz_tags", .glo "cyclic_run", .glo "cyclic_word", .free "dict", .glo "from_cyclic_word", .glo "great_run", .free "int", .glo "is_between", .glo "is_integer", .glo "is_name", .glo "is_system_cyclic", .glo "is_system_machinetags", .glo "is_tuple_of"] : List He.Fa) ++ ([.glo "is_word_of", .free "isinstance", .glo "law", .free "len", .free "list", .free "min", .glo "next_tag", .glo "ran", .free "range", .glo "signs_of", .glo "stepped", .free "str", .free "sum", .glo "tag_fate", .glo "tag_run", .glo "to_cyclic", .free "tuple", .mkr "Tags", .cls "Tags", .noat "Tags" "rules", .noat "Tags" "take"] : List He.Fa)
def fx : List (PySem.W.Frag → Bool) := [fun K => isiB K ["Tags"]]
def hx : HookX := ⟨fa, fx, fn⟩
def loose : List PySem.Str := (["__name__", "MachineError", "InvalidNumber", "InvalidRules", "InvalidSteps", "InvalidSystem", "InvalidTags", "InvalidWord", "LETTERS_shapes", "DIGITS", "is_integer", "is_between", "is_tuple_of", "is_word_of", "MOST_STEPS_checks", "check_steps", "LETTERS_tags", "MOST_TAKE_tags", "MOST_RULE_tags", "MOST_WORD_tags", "MOST_STEPS_tags", "are_rules", "Tags", "check_word", "stepped", "next_tag", "ran", "check_run", "tag_run", "tag_fate"] : List PySem.Str) ++ (["SIGNS", "MOST_WORDS", "MOST_SIGNS", "MOST_LENGTH", "is_system", "is_system_cyclic", "check_signs", "cyclic_run", "check_tags", "signs_of", "to_cyclic", "cyclic_word", "from_cyclic_word", "MOST_TAKE_machinetags", "MOST_NAMES", "MOST_LETTERS", "MOST_RULE_machinetags", "MOST_WORD_machinetags", "MOST_STEPS_machinetags", "MOST_NUMBER", "is_name", "are_names", "is_system_machinetags", "great_run", "collatz_tags", "collatz_steps", "_law_cell", "_law_box", "_law_take", "_law_same"] : List PySem.Str) ++ (["_law_word", "_law_next_tag", "_law_way", "_law_drawn", "_law_tags_right", "_law_signs", "_law_letters", "_law_cyclic_right", "_law_cyclic", "_law_any_cyclic_right", "_law_collatz_right", "_law_right"] : List PySem.Str)
abbrev R : PySem.W.OpenRow := PySem.W.OpenLaw.row PySem.Challenge.rw_turingbench_k85_whole_tags_cyclic_ones_c
abbrev hk : PySem.W.Hook := hookX 5 hx
def ob (s : PySem.W.SharedT) : He.AlD := obsXG 5 hx (HandSHeadRun.getT s)
theorem ob_eq (s : PySem.W.SharedT) : ob s = hk.obs s.abs := obsXG_eq (HandSHeadRun.getT_eq s)
def HD (K : PySem.W.Frag) (mg : Str → Option Value) : Prop := ∃ h : Heap, K.In h ∧ h.Ns mainGlobals mg ∧ SaysX hx K
section
variable {K : PySem.W.Frag} {mg : Str → Option Value}
theorem m_DIGITS (z : HD K mg) : ∃ t, mg "DIGITS" = some (.str "0123456789" t) := by
  obtain ⟨h, X, G, c⟩ := z
  exact He.str_ok X G (c.says.fact 0 (f := .str "DIGITS" "0123456789") rfl)
theorem m_LETTERS_shapes (z : HD K mg) : ∃ t, mg "LETTERS_shapes" = some (.str "abcdefghijklmnopqrstuvwxyz" t) := by
  obtain ⟨h, X, G, c⟩ := z
  exact He.str_ok X G (c.says.fact 1 (f := .str "LETTERS_shapes" "abcdefghijklmnopqrstuvwxyz") rfl)
theorem m_LETTERS_tags (z : HD K mg) : ∃ t, mg "LETTERS_tags" = some (.str "abcdef" t) := by
  obtain ⟨h, X, G, c⟩ := z
  exact He.str_ok X G (c.says.fact 2 (f := .str "LETTERS_tags" "abcdef") rfl)
theorem m_MOST_LENGTH (z : HD K mg) : ∃ t, mg "MOST_LENGTH" = some (.int (1000) t) := by
  obtain ⟨h, X, G, c⟩ := z
  exact He.int_ok X G (c.says.fact 3 (f := .int "MOST_LENGTH" (1000)) rfl)
theorem m_MOST_LETTERS (z : HD K mg) : ∃ t, mg "MOST_LETTERS" = some (.int (4) t) := by
  obtain ⟨h, X, G, c⟩ := z
  exact He.int_ok X G (c.says.fact 4 (f := .int "MOST_LETTERS" (4)) rfl)
theorem m_MOST_NAMES (z : HD K mg) : ∃ t, mg "MOST_NAMES" = some (.int (200) t) := by
  obtain ⟨h, X, G, c⟩ := z
  exact He.int_ok X G (c.says.fact 5 (f := .int "MOST_NAMES" (200)) rfl)
theorem m_MOST_NUMBER (z : HD K mg) : ∃ t, mg "MOST_NUMBER" = some (.int (60) t) := by
  obtain ⟨h, X, G, c⟩ := z
  exact He.int_ok X G (c.says.fact 6 (f := .int "MOST_NUMBER" (60)) rfl)
theorem m_MOST_RULE_machinetags (z : HD K mg) : ∃ t, mg "MOST_RULE_machinetags" = some (.int (8) t) := by
  obtain ⟨h, X, G, c⟩ := z
  exact He.int_ok X G (c.says.fact 7 (f := .int "MOST_RULE_machinetags" (8)) rfl)
theorem m_MOST_RULE_tags (z : HD K mg) : ∃ t, mg "MOST_RULE_tags" = some (.int (8) t) := by
  obtain ⟨h, X, G, c⟩ := z
  exact He.int_ok X G (c.says.fact 8 (f := .int "MOST_RULE_tags" (8)) rfl)
theorem m_MOST_SIGNS (z : HD K mg) : ∃ t, mg "MOST_SIGNS" = some (.int (48) t) := by
  obtain ⟨h, X, G, c⟩ := z
  exact He.int_ok X G (c.says.fact 9 (f := .int "MOST_SIGNS" (48)) rfl)
theorem m_MOST_STEPS_checks (z : HD K mg) : ∃ t, mg "MOST_STEPS_checks" = some (.int (2000) t) := by
  obtain ⟨h, X, G, c⟩ := z
  exact He.int_ok X G (c.says.fact 10 (f := .int "MOST_STEPS_checks" (2000)) rfl)
theorem m_MOST_STEPS_machinetags (z : HD K mg) : ∃ t, mg "MOST_STEPS_machinetags" = some (.int (2000) t) := by
  obtain ⟨h, X, G, c⟩ := z
  exact He.int_ok X G (c.says.fact 11 (f := .int "MOST_STEPS_machinetags" (2000)) rfl)
theorem m_MOST_STEPS_tags (z : HD K mg) : ∃ t, mg "MOST_STEPS_tags" = some (.int (500) t) := by
  obtain ⟨h, X, G, c⟩ := z
  exact He.int_ok X G (c.says.fact 12 (f := .int "MOST_STEPS_tags" (500)) rfl)
theorem m_MOST_TAKE_machinetags (z : HD K mg) : ∃ t, mg "MOST_TAKE_machinetags" = some (.int (4) t) := by
  obtain ⟨h, X, G, c⟩ := z
  exact He.int_ok X G (c.says.fact 13 (f := .int "MOST_TAKE_machinetags" (4)) rfl)
theorem m_MOST_TAKE_tags (z : HD K mg) : ∃ t, mg "MOST_TAKE_tags" = some (.int (4) t) := by
  obtain ⟨h, X, G, c⟩ := z
  exact He.int_ok X G (c.says.fact 14 (f := .int "MOST_TAKE_tags" (4)) rfl)
theorem m_MOST_WORDS (z : HD K mg) : ∃ t, mg "MOST_WORDS" = some (.int (12) t) := by
  obtain ⟨h, X, G, c⟩ := z
  exact He.int_ok X G (c.says.fact 15 (f := .int "MOST_WORDS" (12)) rfl)
theorem m_MOST_WORD_machinetags (z : HD K mg) : ∃ t, mg "MOST_WORD_machinetags" = some (.int (1000) t) := by
  obtain ⟨h, X, G, c⟩ := z
  exact He.int_ok X G (c.says.fact 16 (f := .int "MOST_WORD_machinetags" (1000)) rfl)
theorem m_MOST_WORD_tags (z : HD K mg) : ∃ t, mg "MOST_WORD_tags" = some (.int (60) t) := by
  obtain ⟨h, X, G, c⟩ := z
  exact He.int_ok X G (c.says.fact 17 (f := .int "MOST_WORD_tags" (60)) rfl)
theorem m_SIGNS (z : HD K mg) : ∃ t, mg "SIGNS" = some (.str "01" t) := by
  obtain ⟨h, X, G, c⟩ := z
  exact He.str_ok X G (c.says.fact 18 (f := .str "SIGNS" "01") rfl)
theorem m_Tags (z : HD K mg) : mg "Tags" = some (.ref (He.ga K "Tags")) := by
  obtain ⟨h, X, G, c⟩ := z
  exact He.glo_ok X G (c.says.fact 19 (f := .glo "Tags") rfl)
theorem m__law_any_cyclic_right (z : HD K mg) : mg "_law_any_cyclic_right" = some (.ref (He.ga K "_law_any_cyclic_right")) := by
  obtain ⟨h, X, G, c⟩ := z
  exact He.glo_ok X G (c.says.fact 20 (f := .glo "_law_any_cyclic_right") rfl)
theorem m__law_box (z : HD K mg) : mg "_law_box" = some (.ref (He.ga K "_law_box")) := by
  obtain ⟨h, X, G, c⟩ := z
  exact He.glo_ok X G (c.says.fact 21 (f := .glo "_law_box") rfl)
theorem m__law_cell (z : HD K mg) : mg "_law_cell" = some (.ref (He.ga K "_law_cell")) := by
  obtain ⟨h, X, G, c⟩ := z
  exact He.glo_ok X G (c.says.fact 22 (f := .glo "_law_cell") rfl)
theorem m__law_collatz_right (z : HD K mg) : mg "_law_collatz_right" = some (.ref (He.ga K "_law_collatz_right")) := by
  obtain ⟨h, X, G, c⟩ := z
  exact He.glo_ok X G (c.says.fact 23 (f := .glo "_law_collatz_right") rfl)
theorem m__law_cyclic (z : HD K mg) : mg "_law_cyclic" = some (.ref (He.ga K "_law_cyclic")) := by
  obtain ⟨h, X, G, c⟩ := z
  exact He.glo_ok X G (c.says.fact 24 (f := .glo "_law_cyclic") rfl)
theorem m__law_cyclic_right (z : HD K mg) : mg "_law_cyclic_right" = some (.ref (He.ga K "_law_cyclic_right")) := by
  obtain ⟨h, X, G, c⟩ := z
  exact He.glo_ok X G (c.says.fact 25 (f := .glo "_law_cyclic_right") rfl)
theorem m__law_drawn (z : HD K mg) : mg "_law_drawn" = some (.ref (He.ga K "_law_drawn")) := by
  obtain ⟨h, X, G, c⟩ := z
  exact He.glo_ok X G (c.says.fact 26 (f := .glo "_law_drawn") rfl)
theorem m__law_letters (z : HD K mg) : mg "_law_letters" = some (.ref (He.ga K "_law_letters")) := by
  obtain ⟨h, X, G, c⟩ := z
  exact He.glo_ok X G (c.says.fact 27 (f := .glo "_law_letters") rfl)
theorem m__law_next_tag (z : HD K mg) : mg "_law_next_tag" = some (.ref (He.ga K "_law_next_tag")) := by
  obtain ⟨h, X, G, c⟩ := z
  exact He.glo_ok X G (c.says.fact 28 (f := .glo "_law_next_tag") rfl)
theorem m__law_right (z : HD K mg) : mg "_law_right" = some (.ref (He.ga K "_law_right")) := by
  obtain ⟨h, X, G, c⟩ := z
  exact He.glo_ok X G (c.says.fact 29 (f := .glo "_law_right") rfl)
theorem m__law_same (z : HD K mg) : mg "_law_same" = some (.ref (He.ga K "_law_same")) := by
  obtain ⟨h, X, G, c⟩ := z
  exact He.glo_ok X G (c.says.fact 30 (f := .glo "_law_same") rfl)
theorem m__law_signs (z : HD K mg) : mg "_law_signs" = some (.ref (He.ga K "_law_signs")) := by
  obtain ⟨h, X, G, c⟩ := z
  exact He.glo_ok X G (c.says.fact 31 (f := .glo "_law_signs") rfl)
theorem m__law_tags_right (z : HD K mg) : mg "_law_tags_right" = some (.ref (He.ga K "_law_tags_right")) := by
  obtain ⟨h, X, G, c⟩ := z
  exact He.glo_ok X G (c.says.fact 32 (f := .glo "_law_tags_right") rfl)
theorem m__law_take (z : HD K mg) : mg "_law_take" = some (.ref (He.ga K "_law_take")) := by
  obtain ⟨h, X, G, c⟩ := z
  exact He.glo_ok X G (c.says.fact 33 (f := .glo "_law_take") rfl)
theorem m__law_way (z : HD K mg) : mg "_law_way" = some (.ref (He.ga K "_law_way")) := by
  obtain ⟨h, X, G, c⟩ := z
  exact He.glo_ok X G (c.says.fact 34 (f := .glo "_law_way") rfl)
theorem m__law_word (z : HD K mg) : mg "_law_word" = some (.ref (He.ga K "_law_word")) := by
  obtain ⟨h, X, G, c⟩ := z
  exact He.glo_ok X G (c.says.fact 35 (f := .glo "_law_word") rfl)
theorem n_abs (z : HD K mg) : mg "abs" = none := by
  obtain ⟨h, X, G, c⟩ := z
  exact He.free_ok X G (c.says.fact 36 (f := .free "abs") rfl)
theorem n_all (z : HD K mg) : mg "all" = none := by
  obtain ⟨h, X, G, c⟩ := z
  exact He.free_ok X G (c.says.fact 37 (f := .free "all") rfl)
theorem m_are_names (z : HD K mg) : mg "are_names" = some (.ref (He.ga K "are_names")) := by
  obtain ⟨h, X, G, c⟩ := z
  exact He.glo_ok X G (c.says.fact 38 (f := .glo "are_names") rfl)
theorem m_are_rules (z : HD K mg) : mg "are_rules" = some (.ref (He.ga K "are_rules")) := by
  obtain ⟨h, X, G, c⟩ := z
  exact He.glo_ok X G (c.says.fact 39 (f := .glo "are_rules") rfl)
theorem n_bool (z : HD K mg) : mg "bool" = none := by
  obtain ⟨h, X, G, c⟩ := z
  exact He.free_ok X G (c.says.fact 40 (f := .free "bool") rfl)
theorem m_check_run (z : HD K mg) : mg "check_run" = some (.ref (He.ga K "check_run")) := by
  obtain ⟨h, X, G, c⟩ := z
  exact He.glo_ok X G (c.says.fact 41 (f := .glo "check_run") rfl)
theorem m_check_signs (z : HD K mg) : mg "check_signs" = some (.ref (He.ga K "check_signs")) := by
  obtain ⟨h, X, G, c⟩ := z
  exact He.glo_ok X G (c.says.fact 42 (f := .glo "check_signs") rfl)
theorem m_check_steps (z : HD K mg) : mg "check_steps" = some (.ref (He.ga K "check_steps")) := by
  obtain ⟨h, X, G, c⟩ := z
  exact He.glo_ok X G (c.says.fact 43 (f := .glo "check_steps") rfl)
theorem m_check_tags (z : HD K mg) : mg "check_tags" = some (.ref (He.ga K "check_tags")) := by
  obtain ⟨h, X, G, c⟩ := z
  exact He.glo_ok X G (c.says.fact 44 (f := .glo "check_tags") rfl)
theorem m_check_word (z : HD K mg) : mg "check_word" = some (.ref (He.ga K "check_word")) := by
  obtain ⟨h, X, G, c⟩ := z
  exact He.glo_ok X G (c.says.fact 45 (f := .glo "check_word") rfl)
theorem m_collatz_steps (z : HD K mg) : mg "collatz_steps" = some (.ref (He.ga K "collatz_steps")) := by
  obtain ⟨h, X, G, c⟩ := z
  exact He.glo_ok X G (c.says.fact 46 (f := .glo "collatz_steps") rfl)
theorem m_collatz_tags (z : HD K mg) : mg "collatz_tags" = some (.ref (He.ga K "collatz_tags")) := by
  obtain ⟨h, X, G, c⟩ := z
  exact He.glo_ok X G (c.says.fact 47 (f := .glo "collatz_tags") rfl)
theorem m_cyclic_run (z : HD K mg) : mg "cyclic_run" = some (.ref (He.ga K "cyclic_run")) := by
  obtain ⟨h, X, G, c⟩ := z
  exact He.glo_ok X G (c.says.fact 48 (f := .glo "cyclic_run") rfl)
theorem m_cyclic_word (z : HD K mg) : mg "cyclic_word" = some (.ref (He.ga K "cyclic_word")) := by
  obtain ⟨h, X, G, c⟩ := z
  exact He.glo_ok X G (c.says.fact 49 (f := .glo "cyclic_word") rfl)
theorem n_dict (z : HD K mg) : mg "dict" = none := by
  obtain ⟨h, X, G, c⟩ := z
  exact He.free_ok X G (c.says.fact 50 (f := .free "dict") rfl)
theorem m_from_cyclic_word (z : HD K mg) : mg "from_cyclic_word" = some (.ref (He.ga K "from_cyclic_word")) := by
  obtain ⟨h, X, G, c⟩ := z
  exact He.glo_ok X G (c.says.fact 51 (f := .glo "from_cyclic_word") rfl)
theorem m_great_run (z : HD K mg) : mg "great_run" = some (.ref (He.ga K "great_run")) := by
  obtain ⟨h, X, G, c⟩ := z
  exact He.glo_ok X G (c.says.fact 52 (f := .glo "great_run") rfl)
theorem n_int (z : HD K mg) : mg "int" = none := by
  obtain ⟨h, X, G, c⟩ := z
  exact He.free_ok X G (c.says.fact 53 (f := .free "int") rfl)
theorem m_is_between (z : HD K mg) : mg "is_between" = some (.ref (He.ga K "is_between")) := by
  obtain ⟨h, X, G, c⟩ := z
  exact He.glo_ok X G (c.says.fact 54 (f := .glo "is_between") rfl)
theorem m_is_integer (z : HD K mg) : mg "is_integer" = some (.ref (He.ga K "is_integer")) := by
  obtain ⟨h, X, G, c⟩ := z
  exact He.glo_ok X G (c.says.fact 55 (f := .glo "is_integer") rfl)
theorem m_is_name (z : HD K mg) : mg "is_name" = some (.ref (He.ga K "is_name")) := by
  obtain ⟨h, X, G, c⟩ := z
  exact He.glo_ok X G (c.says.fact 56 (f := .glo "is_name") rfl)
theorem m_is_system_cyclic (z : HD K mg) : mg "is_system_cyclic" = some (.ref (He.ga K "is_system_cyclic")) := by
  obtain ⟨h, X, G, c⟩ := z
  exact He.glo_ok X G (c.says.fact 57 (f := .glo "is_system_cyclic") rfl)
theorem m_is_system_machinetags (z : HD K mg) : mg "is_system_machinetags" = some (.ref (He.ga K "is_system_machinetags")) := by
  obtain ⟨h, X, G, c⟩ := z
  exact He.glo_ok X G (c.says.fact 58 (f := .glo "is_system_machinetags") rfl)
theorem m_is_tuple_of (z : HD K mg) : mg "is_tuple_of" = some (.ref (He.ga K "is_tuple_of")) := by
  obtain ⟨h, X, G, c⟩ := z
  exact He.glo_ok X G (c.says.fact 59 (f := .glo "is_tuple_of") rfl)
theorem m_is_word_of (z : HD K mg) : mg "is_word_of" = some (.ref (He.ga K "is_word_of")) := by
  obtain ⟨h, X, G, c⟩ := z
  exact He.glo_ok X G (c.says.fact 60 (f := .glo "is_word_of") rfl)
theorem n_isinstance (z : HD K mg) : mg "isinstance" = none := by
  obtain ⟨h, X, G, c⟩ := z
  exact He.free_ok X G (c.says.fact 61 (f := .free "isinstance") rfl)
theorem m_law (z : HD K mg) : mg "law" = some (.ref (He.ga K "law")) := by
  obtain ⟨h, X, G, c⟩ := z
  exact He.glo_ok X G (c.says.fact 62 (f := .glo "law") rfl)
theorem n_len (z : HD K mg) : mg "len" = none := by
  obtain ⟨h, X, G, c⟩ := z
  exact He.free_ok X G (c.says.fact 63 (f := .free "len") rfl)
theorem n_list (z : HD K mg) : mg "list" = none := by
  obtain ⟨h, X, G, c⟩ := z
  exact He.free_ok X G (c.says.fact 64 (f := .free "list") rfl)
theorem n_min (z : HD K mg) : mg "min" = none := by
  obtain ⟨h, X, G, c⟩ := z
  exact He.free_ok X G (c.says.fact 65 (f := .free "min") rfl)
theorem m_next_tag (z : HD K mg) : mg "next_tag" = some (.ref (He.ga K "next_tag")) := by
  obtain ⟨h, X, G, c⟩ := z
  exact He.glo_ok X G (c.says.fact 66 (f := .glo "next_tag") rfl)
theorem m_ran (z : HD K mg) : mg "ran" = some (.ref (He.ga K "ran")) := by
  obtain ⟨h, X, G, c⟩ := z
  exact He.glo_ok X G (c.says.fact 67 (f := .glo "ran") rfl)
theorem n_range (z : HD K mg) : mg "range" = none := by
  obtain ⟨h, X, G, c⟩ := z
  exact He.free_ok X G (c.says.fact 68 (f := .free "range") rfl)
theorem m_signs_of (z : HD K mg) : mg "signs_of" = some (.ref (He.ga K "signs_of")) := by
  obtain ⟨h, X, G, c⟩ := z
  exact He.glo_ok X G (c.says.fact 69 (f := .glo "signs_of") rfl)
theorem m_stepped (z : HD K mg) : mg "stepped" = some (.ref (He.ga K "stepped")) := by
  obtain ⟨h, X, G, c⟩ := z
  exact He.glo_ok X G (c.says.fact 70 (f := .glo "stepped") rfl)
theorem n_str (z : HD K mg) : mg "str" = none := by
  obtain ⟨h, X, G, c⟩ := z
  exact He.free_ok X G (c.says.fact 71 (f := .free "str") rfl)
theorem n_sum (z : HD K mg) : mg "sum" = none := by
  obtain ⟨h, X, G, c⟩ := z
  exact He.free_ok X G (c.says.fact 72 (f := .free "sum") rfl)
theorem m_tag_fate (z : HD K mg) : mg "tag_fate" = some (.ref (He.ga K "tag_fate")) := by
  obtain ⟨h, X, G, c⟩ := z
  exact He.glo_ok X G (c.says.fact 73 (f := .glo "tag_fate") rfl)
theorem m_tag_run (z : HD K mg) : mg "tag_run" = some (.ref (He.ga K "tag_run")) := by
  obtain ⟨h, X, G, c⟩ := z
  exact He.glo_ok X G (c.says.fact 74 (f := .glo "tag_run") rfl)
theorem m_to_cyclic (z : HD K mg) : mg "to_cyclic" = some (.ref (He.ga K "to_cyclic")) := by
  obtain ⟨h, X, G, c⟩ := z
  exact He.glo_ok X G (c.says.fact 75 (f := .glo "to_cyclic") rfl)
theorem n_tuple (z : HD K mg) : mg "tuple" = none := by
  obtain ⟨h, X, G, c⟩ := z
  exact He.free_ok X G (c.says.fact 76 (f := .free "tuple") rfl)
theorem mk_Tags (z : HD K mg) : Mk K (He.ga K "Tags") (He.ma K (He.ga K "Tags") "__init__") := by
  obtain ⟨h, X, G, c⟩ := z
  exact He.mkr_ok (c.says.fact 77 (f := .mkr "Tags") rfl)
theorem cl_Tags (z : HD K mg) : Cls K (He.ga K "Tags") := by
  obtain ⟨h, X, G, c⟩ := z
  exact He.cls_ok (c.says.fact 78 (f := .cls "Tags") rfl)
theorem na_Tags_rules (z : HD K mg) : NoAttr K (He.ga K "Tags") "rules" := by
  obtain ⟨h, X, G, c⟩ := z
  exact He.noat_ok (c.says.fact 79 (f := .noat "Tags" "rules") rfl)
theorem na_Tags_take (z : HD K mg) : NoAttr K (He.ga K "Tags") "take" := by
  obtain ⟨h, X, G, c⟩ := z
  exact He.noat_ok (c.says.fact 80 (f := .noat "Tags" "take") rfl)
theorem fo_rules (z : HD K mg) : FldOk K ["Tags"] "rules" := fun C hC => by
  simp only [List.mem_cons, List.not_mem_nil, or_false] at hC
  obtain rfl := hC
  · exact ⟨cl_Tags z, na_Tags_rules z⟩
theorem fo_take (z : HD K mg) : FldOk K ["Tags"] "take" := fun C hC => by
  simp only [List.mem_cons, List.not_mem_nil, or_false] at hC
  obtain rfl := hC
  · exact ⟨cl_Tags z, na_Tags_take z⟩
theorem isi (z : HD K mg) : IsiOk K ["Tags"] := by
  obtain ⟨h, X, G, c⟩ := z
  exact isiB_ok (c.fx 0 (f := fun K => isiB K ["Tags"]) rfl)
end

end Law
end

section
set_option Elab.async false
set_option linter.all false
set_option maxRecDepth 100000
set_option maxHeartbeats 0
namespace Law
open PySem PySem.Spec PyProof.Rows L2 PL

/-! _law_take -/
theorem sc__law_take : FnScope ["box", "many", "digit", "mixed"] ["box", "many"] d__law_take.scope := ⟨rfl, rfl, rfl, by decide +kernel, rfl, by decide +kernel, by decide +kernel⟩
theorem bn__law_take : BindN d__law_take ["box", "many"] := ⟨rfl, fun _ _ _ _ _ _ us hl => match us, hl with | [_, _], _ => rfl⟩
theorem ok__law_take {P : Program} {w : World} {K : PySem.W.Frag} {mg : Str → Option Value} {base : Heap} (z : HD K mg) : FOk P w K mg base d__law_take 1 ["box", "many"] 2 f__law_take :=
  FOk.mk' (N := ["box", "many", "digit", "mixed"]) (b := b__law_take) (by obtain ⟨h, X, G, c⟩ := z; exact c.says.def_ 0 (d := d__law_take) rfl) sc__law_take rfl fun f cdv A outer s H E hr tk hp => (jss_cons (js_if (jt_w (jtw_and (jt_val (jw_ix (u1 hr) (jo_v (pv 0)) (jo_e jd_int))) (jtw_and1 (jt_c cGt (jo_e (jd_fz (jw_ix (u1 hr) (jo_v (pv 0)) (jo_e jd_int)))) (jo_e jd_int)))))
    (jss_cons (js_set (i := 2) sc__law_take.nd rfl (.inl rfl) (jw_mod (jo_e (jd_fz (jw_int rfl (n_int z) (jos_cons (jo_e (jd_fz (jw_ix (u1 hr) (jo_v (pv 0)) (jo_e jd_int)))) jos_nil)))) (jo_v (pv 1))))
    (jss_cons (js_put (ps_asg (jd_fz (jw_fdiv (jo_e (jd_fz (jw_ix (u1 hr) (jo_v (pv 0)) (jo_e jd_int)))) (jo_v (pv 1)))) (pg_sub (jo_v (pv 0)) jd_int (set_any (u1 hr)))))
    (jss_one (js_retV (pv 2)))))
    jss_nil)
    (jss_cons (js_put (ps_asg (jd_fz (jw_add (jo_e (jd_fz (jw_ix (u1 hr) (jo_v (pv 0)) (jo_e jd_int)))) (jo_e jd_int))) (pg_sub (jo_v (pv 0)) jd_int (set_any (u1 hr)))))
    (jss_cons (js_set (i := 3) sc__law_take.nd rfl (.inl rfl) (jw_mod (jo_e (jd_fz (jw_int rfl (n_int z) (jos_cons (jo_e (jd_fz (jw_pow (jo_e (jd_fz (jw_add (jo_e (jd_fz (jw_add (jo_e (jd_fz (jw_ix (u1 hr) (jo_v (pv 0)) (jo_e jd_int)))) (jo_e (jd_fz (jw_mul (jo_e jd_int) (jo_e (jd_fz (jw_ix (u1 hr) (jo_v (pv 0)) (jo_e jd_int)))))))))) (jo_e jd_int)))) (jo_e jd_int)))) jos_nil)))) (jo_e jd_int)))
    (jss_one (js_ret (jw_mod (jo_e (jd_fz (jw_int rfl (n_int z) (jos_cons (jo_e (jd_fz (jw_fdiv (jo_e (jd_fz (jw_mod (jo_e (jd_fz (jw_int rfl (n_int z) (jos_cons (jo_e (jd_fz (jw_pow (jo_e (jd_fz (jw_add (jo_e (jd_fz (jw_mul (jo_v (pv 3)) (jo_e jd_int)))) (jo_e (jd_fz (jw_mul (jo_e jd_int) (jo_e (jd_fz (jw_ix (u1 hr) (jo_v (pv 0)) (jo_e jd_int)))))))))) (jo_e jd_int)))) jos_nil)))) (jo_e jd_int)))) (jo_e jd_int)))) jos_nil)))) (jo_v (pv 1))))))))

/-! _law_word -/
theorem sc__law_word : FnScope ["box", "letters", "most", "k"] ["box", "letters", "most"] d__law_word.scope := ⟨rfl, rfl, rfl, by decide +kernel, rfl, by decide +kernel, by decide +kernel⟩
theorem bn__law_word : BindN d__law_word ["box", "letters", "most"] := ⟨rfl, fun _ _ _ _ _ _ us hl => match us, hl with | [_, _, _], _ => rfl⟩
theorem ok__law_word {P : Program} {w : World} {K : PySem.W.Frag} {mg : Str → Option Value} {base : Heap} (z : HD K mg) : FOk P w K mg base d__law_word 2 ["box", "letters", "most"] 3 f__law_word :=
  FOk.mk' (N := ["box", "letters", "most", "k"]) (b := b__law_word) (by obtain ⟨h, X, G, c⟩ := z; exact c.says.def_ 1 (d := d__law_word) rfl) sc__law_word rfl fun f cdv A outer s H E hr tk hp => (jss_one (js_ret (jw_join (jo_e jd_str) (jos_cons (jo_e (jd_fz (jw_comp (own := [("k", 3)]) rfl sc__law_word.nd (ji_rng1 rfl (n_range z) (jl_cons (jd_fz (jw_f (ok__law_take z) (hr.mono (by decide)) tk rfl (m__law_take z) bn__law_take (jl_cons (jd_ref (pv 0)) (jl_cons (jd_fz (jw_add (jo_v (pv 2)) (jo_e jd_int))) jl_nil)))) jl_nil)) (blkOk_by (own := [("k", 3)]) (by kernel_rfl)) (fun _ _ _ _ _ => jg_ct (pg_name sc__law_word.nd rfl (.inl rfl))) (fun _ _ _ _ _ => jts_nil) (fun _ _ _ _ _ => (jd_fz (jw_ix (u1 hr) (jo_e jd_str) (jo_e (jd_fz (jw_f (ok__law_take z) (hr.mono (by decide)) (takes0 _) rfl (m__law_take z) bn__law_take (jl_cons (jd_ref (pv 0)) (jl_cons (jd_var (pv 1)) jl_nil)))))))) (by decide)))) jos_nil))))

/-! _law_drawn -/
theorem sc__law_drawn : FnScope ["box", "many", "take", "long", "rules", "k", "rule"] ["box"] d__law_drawn.scope := ⟨rfl, rfl, rfl, by decide +kernel, rfl, by decide +kernel, by decide +kernel⟩
theorem bn__law_drawn : BindN d__law_drawn ["box"] := ⟨rfl, fun _ _ _ _ _ _ us hl => match us, hl with | [_], _ => rfl⟩
theorem ok__law_drawn {P : Program} {w : World} {K : PySem.W.Frag} {mg : Str → Option Value} {base : Heap} (z : HD K mg) : FOk P w K mg base d__law_drawn 3 ["box"] 1 f__law_drawn :=
  FOk.mk' (N := ["box", "many", "take", "long", "rules", "k", "rule"]) (b := b__law_drawn) (by obtain ⟨h, X, G, c⟩ := z; exact c.says.def_ 2 (d := d__law_drawn) rfl) sc__law_drawn rfl fun f cdv A outer s H E hr tk hp => (jss_cons (js_parN (is := [1, 2]) rfl (by decide) (ps_asg (pe_tup (jlw_cons (jw_add (jo_e jd_int) (jo_e (jd_fz (jw_f (ok__law_take z) (hr.mono (by decide)) tk rfl (m__law_take z) bn__law_take (jl_cons (jd_ref (pv 0)) (jl_cons jd_int jl_nil)))))) (jlw_cons (jw_ix (u1 hr) (jo_e (jd_fz (jw_lst (jl_cons jd_int (jl_cons jd_int (jl_cons jd_int (jl_cons jd_int (jl_cons jd_int jl_nil)))))))) (jo_e (jd_fz (jw_f (ok__law_take z) (hr.mono (by decide)) tk rfl (m__law_take z) bn__law_take (jl_cons (jd_ref (pv 0)) (jl_cons jd_int jl_nil)))))) jlw_nil))) (pg_tup rfl (pgs_cons (pg_name sc__law_drawn.nd rfl (.inr rfl)) (pgs_cons (pg_name sc__law_drawn.nd rfl (.inl rfl)) gIs_nil)))))
    (jss_cons (js_set (i := 3) sc__law_drawn.nd rfl (.inr rfl) (jw_ix (u1 hr) (jo_e (jd_fz (jw_lst (jl_cons jd_int (jl_cons jd_int (jl_cons jd_int (jl_cons jd_int jl_nil))))))) (jo_e (jd_fz (jw_f (ok__law_take z) (hr.mono (by decide)) tk rfl (m__law_take z) bn__law_take (jl_cons (jd_ref (pv 0)) (jl_cons jd_int jl_nil)))))))
    (jss_cons (js_set (i := 4) sc__law_drawn.nd rfl (.inl rfl) (jw_tuple rfl rfl (n_tuple z) (jos_cons (jo_e (jd_fz (jw_comp (own := [("k", 5)]) rfl sc__law_drawn.nd (ji_rng1 rfl (n_range z) (jl_cons (jd_var (pv 1)) jl_nil)) (blkOk_by (own := [("k", 5)]) (by kernel_rfl)) (fun _ _ _ _ _ => jg_ct (pg_name sc__law_drawn.nd rfl (.inl rfl))) (fun _ _ _ _ _ => jts_nil) (fun _ _ _ _ _ => (jd_fz (jw_f (ok__law_word z) (hr.mono (by decide)) (takes0 _) rfl (m__law_word z) bn__law_word (jl_cons (jd_ref (pv 0)) (jl_cons (jd_var (pv 1)) (jl_cons (jd_var (pv 3)) jl_nil)))))) (by decide)))) jos_nil)))
    (jss_cons (js_if (jt_c (cEq hr.units) (jo_e (jd_fz (jw_f (ok__law_take z) (hr.mono (by decide)) tk rfl (m__law_take z) bn__law_take (jl_cons (jd_ref (pv 0)) (jl_cons jd_int jl_nil))))) (jo_e jd_int))
    (jss_one (js_set (i := 4) sc__law_drawn.nd rfl (.inl rfl) (jw_tuple rfl rfl (n_tuple z) (jos_cons (jo_e (jd_fz (jw_comp (own := [("rule", 6)]) rfl sc__law_drawn.nd (ji_seq (jd_var (pv 4))) (blkOk_by (own := [("rule", 6)]) (by kernel_rfl)) (fun _ _ _ _ _ => jg_ct (pg_name sc__law_drawn.nd rfl (.inl rfl))) (fun _ _ _ _ _ => jts_nil) (fun _ _ _ _ _ => (jd_fz (jw_sl (jo_v (pv 6)) jp_none (jp_e jd_int)))) (by decide)))) jos_nil))))
    jss_nil)
    (jss_one (js_ret (jw_tup (jl_cons (jd_var (pv 2)) (jl_cons (jd_var (pv 4)) (jl_cons (jd_fz (jw_f (ok__law_word z) (hr.mono (by decide)) tk rfl (m__law_word z) bn__law_word (jl_cons (jd_ref (pv 0)) (jl_cons (jd_var (pv 1)) (jl_cons jd_int jl_nil))))) jl_nil))))))))))

/-! _law_same -/
theorem sc__law_same : FnScope ["told", "due", "k"] ["told", "due"] d__law_same.scope := ⟨rfl, rfl, rfl, by decide +kernel, rfl, by decide +kernel, by decide +kernel⟩
theorem bn__law_same : BindN d__law_same ["told", "due"] := ⟨rfl, fun _ _ _ _ _ _ us hl => match us, hl with | [_, _], _ => rfl⟩
theorem ok__law_same {P : Program} {w : World} {K : PySem.W.Frag} {mg : Str → Option Value} {base : Heap} (z : HD K mg) : ∀ n : Nat, FOk P w K mg base d__law_same (n + 1) ["told", "due"] 2 (f__law_same n)
  | 0 => FOk.never (by obtain ⟨h, X, G, c⟩ := z; exact c.says.def_ 3 (d := d__law_same) rfl) rfl
  | n + 1 => by
    have F := ok__law_same (P := P) (w := w) (K := K) (mg := mg) (base := base) z n
    exact (FOk.mk' (k := n + 1) (N := ["told", "due", "k"]) (b := b__law_same (f__law_same n)) (by obtain ⟨h, X, G, c⟩ := z; exact c.says.def_ 3 (d := d__law_same) rfl) sc__law_same rfl fun f cdv A outer s H E hr tk hp => (jss_cons (js_if (jt_w (jtw_or (jt_c cIs (jo_v (pv 1)) (jo_e jd_non)) (jtw_or1 (jt_val (jw_isi (isi z) rfl (n_isinstance z) (jos_cons (jo_v (pv 1)) (jos_cons (jo_e (jd_ty rfl (n_bool z) bt_bool)) jos_nil)))))))
    (jss_one (js_ret (jw_if (jt_c cIs (jo_v (pv 1)) (jo_e jd_non)) (jw_c cIs (jo_v (pv 0)) (jo_e jd_non)) (jw_and (jw_isi (isi z) rfl (n_isinstance z) (jos_cons (jo_v (pv 0)) (jos_cons (jo_e (jd_ty rfl (n_bool z) bt_bool)) jos_nil))) (jw_one (jw_c (cEq hr.units) (jo_e (jd_fz (jw_c cIs (jo_v (pv 0)) (jo_e jd_bl)))) (jo_e (jd_fz (jw_c cIs (jo_v (pv 1)) (jo_e jd_bl))))))))))
    jss_nil)
    (jss_cons (js_if (jt_val (jw_isi (isi z) rfl (n_isinstance z) (jos_cons (jo_v (pv 1)) (jos_cons (jo_e (jd_ty rfl (n_int z) bt_int)) jos_nil))))
    (jss_one (js_ret (jw_and (jw_isi (isi z) rfl (n_isinstance z) (jos_cons (jo_v (pv 0)) (jos_cons (jo_e (jd_ty rfl (n_int z) bt_int)) jos_nil))) (jw_and (jw_not (jw_isi (isi z) rfl (n_isinstance z) (jos_cons (jo_v (pv 0)) (jos_cons (jo_e (jd_ty rfl (n_bool z) bt_bool)) jos_nil)))) (jw_one (jw_c (cEq hr.units) (jo_e (jd_fz (jw_sub (jo_e (jd_fz (jw_int rfl (n_int z) (jos_cons (jo_v (pv 0)) jos_nil)))) (jo_v (pv 1))))) (jo_e jd_int)))))))
    jss_nil)
    (jss_cons (js_if (jt_val (jw_isi (isi z) rfl (n_isinstance z) (jos_cons (jo_v (pv 1)) (jos_cons (jo_e (jd_ty rfl (n_str z) bt_str)) jos_nil))))
    (jss_one (js_ret (jw_and (jw_isi (isi z) rfl (n_isinstance z) (jos_cons (jo_v (pv 0)) (jos_cons (jo_e (jd_ty rfl (n_str z) bt_str)) jos_nil))) (jw_and (jw_c (cEq hr.units) (jo_e (jd_fz (jw_len rfl (n_len z) (jos_cons (jo_v (pv 0)) jos_nil)))) (jo_e (jd_fz (jw_len rfl (n_len z) (jos_cons (jo_v (pv 1)) jos_nil))))) (jw_one (jw_c (cEq hr.units) (jo_e (jd_fz (jw_comp (own := [("k", 2)]) rfl sc__law_same.nd (ji_rng1 rfl (n_range z) (jl_cons (jd_fz (jw_len rfl (n_len z) (jos_cons (jo_v (pv 1)) jos_nil))) jl_nil)) (blkOk_by (own := [("k", 2)]) (by kernel_rfl)) (fun _ _ _ _ _ => jg_ct (pg_name sc__law_same.nd rfl (.inl rfl))) (fun _ _ _ _ _ => jts_one (jt_c (cNe hr.units) (jo_e (jd_fz (jw_sl (jo_v (pv 0)) (jp_e (jd_var (pv 2))) (jp_e (jd_fz (jw_add (jo_v (pv 2)) (jo_e jd_int))))))) (jo_e (jd_fz (jw_ix (u1 hr) (jo_v (pv 1)) (jo_v (pv 2))))))) (fun _ _ _ _ _ => (jd_var (pv 2))) (by decide)))) (jo_e (jd_fz (jw_lst jl_nil)))))))))
    jss_nil)
    (jss_cons (js_if (jt_w (jtw_or (jt_c (cNe hr.units) (jo_e (jd_fz (jw_isi (isi z) rfl (n_isinstance z) (jos_cons (jo_v (pv 0)) (jos_cons (jo_e (jd_ty rfl (n_list z) bt_list)) jos_nil))))) (jo_e (jd_fz (jw_isi (isi z) rfl (n_isinstance z) (jos_cons (jo_v (pv 1)) (jos_cons (jo_e (jd_ty rfl (n_list z) bt_list)) jos_nil)))))) (jtw_or1 (jt_c (cNe hr.units) (jo_e (jd_fz (jw_isi (isi z) rfl (n_isinstance z) (jos_cons (jo_v (pv 0)) (jos_cons (jo_e (jd_ty rfl (n_tuple z) bt_tuple)) jos_nil))))) (jo_e (jd_fz (jw_isi (isi z) rfl (n_isinstance z) (jos_cons (jo_v (pv 1)) (jos_cons (jo_e (jd_ty rfl (n_tuple z) bt_tuple)) jos_nil)))))))))
    (jss_one (js_ret (jw_d jd_bl)))
    jss_nil)
    (jss_one (js_ret (jw_and (jw_c (cEq hr.units) (jo_e (jd_fz (jw_len rfl (n_len z) (jos_cons (jo_v (pv 0)) jos_nil)))) (jo_e (jd_fz (jw_len rfl (n_len z) (jos_cons (jo_v (pv 1)) jos_nil))))) (jw_one (jw_c (cEq hr.units) (jo_e (jd_fz (jw_comp (own := [("k", 2)]) rfl sc__law_same.nd (ji_rng1 rfl (n_range z) (jl_cons (jd_fz (jw_len rfl (n_len z) (jos_cons (jo_v (pv 1)) jos_nil))) jl_nil)) (blkOk_by (own := [("k", 2)]) (by kernel_rfl)) (fun _ _ _ _ _ => jg_ct (pg_name sc__law_same.nd rfl (.inl rfl))) (fun _ _ _ _ _ => jts_one (jt_not (jt_val (jw_f F (hr.mono (by omega)) (takes0 _) rfl (m__law_same z) bn__law_same (jl_cons (jd_fz (jw_ix (u1 hr) (jo_v (pv 0)) (jo_v (pv 2)))) (jl_cons (jd_fz (jw_ix (u1 hr) (jo_v (pv 1)) (jo_v (pv 2)))) jl_nil)))))) (fun _ _ _ _ _ => (jd_var (pv 2))) (by decide)))) (jo_e (jd_fz (jw_lst jl_nil))))))))))))).more (by omega)

/-! is_word_of -/
theorem sc_is_word_of : FnScope ["value", "letters", "most", "sign"] ["value", "letters", "most"] d_is_word_of.scope := ⟨rfl, rfl, rfl, by decide +kernel, rfl, by decide +kernel, by decide +kernel⟩
theorem bn_is_word_of : BindN d_is_word_of ["value", "letters", "most"] := ⟨rfl, fun _ _ _ _ _ _ us hl => match us, hl with | [_, _, _], _ => rfl⟩
theorem ok_is_word_of {P : Program} {w : World} {K : PySem.W.Frag} {mg : Str → Option Value} {base : Heap} (z : HD K mg) : FOk P w K mg base d_is_word_of 1 ["value", "letters", "most"] 3 f_is_word_of :=
  FOk.mk' (N := ["value", "letters", "most", "sign"]) (b := b_is_word_of) (by obtain ⟨h, X, G, c⟩ := z; exact c.says.def_ 4 (d := d_is_word_of) rfl) sc_is_word_of rfl fun f cdv A outer s H E hr tk hp => (jss_one (js_ret (jw_and (jw_isi (isi z) rfl (n_isinstance z) (jos_cons (jo_v (pv 0)) (jos_cons (jo_e (jd_ty rfl (n_str z) bt_str)) jos_nil))) (jw_and (jw_c cLe (jo_e (jd_fz (jw_len rfl (n_len z) (jos_cons (jo_v (pv 0)) jos_nil)))) (jo_v (pv 2))) (jw_one (jw_all rfl rfl (n_all z) (jos_cons (jo_e (jd_fz (jw_comp (own := [("sign", 3)]) rfl sc_is_word_of.nd (ji_seq (jd_var (pv 0))) (blkOk_by (own := [("sign", 3)]) (by kernel_rfl)) (fun _ _ _ _ _ => jg_ct (pg_name sc_is_word_of.nd rfl (.inl rfl))) (fun _ _ _ _ _ => jts_nil) (fun _ _ _ _ _ => (jd_fz (jw_in (u1 hr) (jo_v (pv 3)) (jo_v (pv 1))))) (by decide)))) jos_nil)))))))

/-! check_signs -/
theorem sc_check_signs : FnScope ["word"] ["word"] d_check_signs.scope := ⟨rfl, rfl, rfl, by decide +kernel, rfl, by decide +kernel, by decide +kernel⟩
theorem bn_check_signs : BindN d_check_signs ["word"] := ⟨rfl, fun _ _ _ _ _ _ us hl => match us, hl with | [_], _ => rfl⟩
theorem ok_check_signs {P : Program} {w : World} {K : PySem.W.Frag} {mg : Str → Option Value} {base : Heap} (z : HD K mg) : FOk P w K mg base d_check_signs 2 ["word"] 1 f_check_signs :=
  FOk.mk' (N := ["word"]) (b := b_check_signs) (by obtain ⟨h, X, G, c⟩ := z; exact c.says.def_ 5 (d := d_check_signs) rfl) sc_check_signs rfl fun f cdv A outer s H E hr tk hp => (jss_one (js_if (jt_not (jt_val (jw_f (ok_is_word_of z) (hr.mono (by decide)) tk rfl (m_is_word_of z) bn_is_word_of (jl_cons (jd_var (pv 0)) (jl_cons (jd_gstr rfl (m_SIGNS z)) (jl_cons (jd_gint rfl (m_MOST_LENGTH z)) jl_nil))))))
    (jss_one js_never)
    jss_nil))

/-! is_integer -/
theorem sc_is_integer : FnScope ["value"] ["value"] d_is_integer.scope := ⟨rfl, rfl, rfl, by decide +kernel, rfl, by decide +kernel, by decide +kernel⟩
theorem bn_is_integer : BindN d_is_integer ["value"] := ⟨rfl, fun _ _ _ _ _ _ us hl => match us, hl with | [_], _ => rfl⟩
theorem ok_is_integer {P : Program} {w : World} {K : PySem.W.Frag} {mg : Str → Option Value} {base : Heap} (z : HD K mg) : FOk P w K mg base d_is_integer 1 ["value"] 1 f_is_integer :=
  FOk.mk' (N := ["value"]) (b := b_is_integer) (by obtain ⟨h, X, G, c⟩ := z; exact c.says.def_ 6 (d := d_is_integer) rfl) sc_is_integer rfl fun f cdv A outer s H E hr tk hp => (jss_one (js_ret (jw_and (jw_isi (isi z) rfl (n_isinstance z) (jos_cons (jo_v (pv 0)) (jos_cons (jo_e (jd_ty rfl (n_int z) bt_int)) jos_nil))) (jw_one (jw_not (jw_isi (isi z) rfl (n_isinstance z) (jos_cons (jo_v (pv 0)) (jos_cons (jo_e (jd_ty rfl (n_bool z) bt_bool)) jos_nil))))))))

/-! is_between -/
theorem sc_is_between : FnScope ["value", "least", "most"] ["value", "least", "most"] d_is_between.scope := ⟨rfl, rfl, rfl, by decide +kernel, rfl, by decide +kernel, by decide +kernel⟩
theorem bn_is_between : BindN d_is_between ["value", "least", "most"] := ⟨rfl, fun _ _ _ _ _ _ us hl => match us, hl with | [_, _, _], _ => rfl⟩
theorem ok_is_between {P : Program} {w : World} {K : PySem.W.Frag} {mg : Str → Option Value} {base : Heap} (z : HD K mg) : FOk P w K mg base d_is_between 2 ["value", "least", "most"] 3 f_is_between :=
  FOk.mk' (N := ["value", "least", "most"]) (b := b_is_between) (by obtain ⟨h, X, G, c⟩ := z; exact c.says.def_ 7 (d := d_is_between) rfl) sc_is_between rfl fun f cdv A outer s H E hr tk hp => (jss_one (js_ret (jw_and (jw_f (ok_is_integer z) (hr.mono (by decide)) tk rfl (m_is_integer z) bn_is_integer (jl_cons (jd_var (pv 0)) jl_nil)) (jw_one (jw_chain cLe cLe (jo_v (pv 1)) (jo_v (pv 0)) (jo_v (pv 2)))))))

/-! check_steps -/
theorem sc_check_steps : FnScope ["value", "most"] ["value", "most"] d_check_steps.scope := ⟨rfl, rfl, rfl, by decide +kernel, rfl, by decide +kernel, by decide +kernel⟩
theorem bd_check_steps_1 : BindD d_check_steps ["value", "most"] 2 1 := ⟨(by intro h; cases h), rfl, fun T kV doc pm an cdv ct us its h1 h2 => match us, its, h1, h2 with | [_, _], [_], _, _ => ⟨_, rfl, rfl⟩⟩
theorem ok_check_steps {P : Program} {w : World} {K : PySem.W.Frag} {mg : Str → Option Value} {base : Heap} (z : HD K mg) : FOk P w K mg base d_check_steps 3 ["value", "most"] 2 f_check_steps :=
  FOk.mk' (N := ["value", "most"]) (b := b_check_steps) (by obtain ⟨h, X, G, c⟩ := z; exact c.says.def_ 8 (d := d_check_steps) rfl) sc_check_steps rfl fun f cdv A outer s H E hr tk hp => (jss_one (js_if (jt_not (jt_val (jw_f (ok_is_between z) (hr.mono (by decide)) tk rfl (m_is_between z) bn_is_between (jl_cons (jd_var (pv 0)) (jl_cons jd_int (jl_cons (jd_var (pv 1)) jl_nil))))))
    (jss_one js_never)
    jss_nil))

/-! is_system_cyclic -/
theorem sc_is_system_cyclic : FnScope ["value", "word"] ["value"] d_is_system_cyclic.scope := ⟨rfl, rfl, rfl, by decide +kernel, rfl, by decide +kernel, by decide +kernel⟩
theorem bn_is_system_cyclic : BindN d_is_system_cyclic ["value"] := ⟨rfl, fun _ _ _ _ _ _ us hl => match us, hl with | [_], _ => rfl⟩
theorem ok_is_system_cyclic {P : Program} {w : World} {K : PySem.W.Frag} {mg : Str → Option Value} {base : Heap} (z : HD K mg) : FOk P w K mg base d_is_system_cyclic 2 ["value"] 1 f_is_system_cyclic :=
  FOk.mk' (N := ["value", "word"]) (b := b_is_system_cyclic) (by obtain ⟨h, X, G, c⟩ := z; exact c.says.def_ 9 (d := d_is_system_cyclic) rfl) sc_is_system_cyclic rfl fun f cdv A outer s H E hr tk hp => (jss_cons (js_if (jt_w (jtw_or (jt_not (jt_val (jw_isi (isi z) rfl (n_isinstance z) (jos_cons (jo_v (pv 0)) (jos_cons (jo_e (jd_ty rfl (n_tuple z) bt_tuple)) jos_nil))))) (jtw_or1 (jt_not (jt_chain cLe cLe (jo_e jd_int) (jo_e (jd_fz (jw_len rfl (n_len z) (jos_cons (jo_v (pv 0)) jos_nil)))) (jo_e (jd_gint rfl (m_MOST_WORDS z))))))))
    (jss_one (js_ret (jw_d jd_bl)))
    jss_nil)
    (jss_one (js_ret (jw_all rfl rfl (n_all z) (jos_cons (jo_e (jd_fz (jw_comp (own := [("word", 1)]) rfl sc_is_system_cyclic.nd (ji_seq (jd_var (pv 0))) (blkOk_by (own := [("word", 1)]) (by kernel_rfl)) (fun _ _ _ _ _ => jg_ct (pg_name sc_is_system_cyclic.nd rfl (.inl rfl))) (fun _ _ _ _ _ => jts_nil) (fun _ _ _ _ _ => (jd_fz (jw_f (ok_is_word_of z) (hr.mono (by decide)) (takes0 _) rfl (m_is_word_of z) bn_is_word_of (jl_cons (jd_var (pv 1)) (jl_cons (jd_gstr rfl (m_SIGNS z)) (jl_cons (jd_gint rfl (m_MOST_SIGNS z)) jl_nil)))))) (by decide)))) jos_nil)))))

/-! cyclic_run -/
theorem sc_cyclic_run : FnScope ["system", "word", "steps", "index", "known", "number"] ["system", "word", "steps"] d_cyclic_run.scope := ⟨rfl, rfl, rfl, by decide +kernel, rfl, by decide +kernel, by decide +kernel⟩
theorem bn_cyclic_run : BindN d_cyclic_run ["system", "word", "steps"] := ⟨rfl, fun _ _ _ _ _ _ us hl => match us, hl with | [_, _, _], _ => rfl⟩
theorem bk_cyclic_run_0 : BindK d_cyclic_run ["system", "word", "steps"] ["steps", "word", "system"] 0 [2, 1, 0] := ⟨rfl, fun _ _ _ _ _ _ us ws h1 h2 => match us, ws, h1, h2 with | [], [_, _, _], _, _ => rfl⟩
theorem ok_cyclic_run {P : Program} {w : World} {K : PySem.W.Frag} {mg : Str → Option Value} {base : Heap} (z : HD K mg) : FOk P w K mg base d_cyclic_run 4 ["system", "word", "steps"] 3 f_cyclic_run :=
  FOk.mk' (N := ["system", "word", "steps", "index", "known", "number"]) (b := b_cyclic_run) (by obtain ⟨h, X, G, c⟩ := z; exact c.says.def_ 10 (d := d_cyclic_run) rfl) sc_cyclic_run rfl fun f cdv A outer s H E hr tk hp => (jss_cons (js_if (jt_not (jt_val (jw_f (ok_is_system_cyclic z) (hr.mono (by decide)) tk rfl (m_is_system_cyclic z) bn_is_system_cyclic (jl_cons (jd_var (pv 0)) jl_nil))))
    (jss_one js_never)
    jss_nil)
    (jss_cons (js_expr (jw_f (ok_check_signs z) (hr.mono (by decide)) tk rfl (m_check_signs z) bn_check_signs (jl_cons (jd_var (pv 1)) jl_nil)))
    (jss_cons (js_expr (jw_fD (ok_check_steps z) (hr.mono (by decide)) tk rfl (m_check_steps z) bd_check_steps_1 (fun _ _ => Reps.nil) (jl_cons (jd_var (pv 2)) (jl_cons (jd_gint rfl (m_MOST_STEPS_tags z)) jl_nil))))
    (jss_cons (js_par2 (ps_par (i := 3) (j := 4) rfl sc_cyclic_run.nd rfl rfl (by decide) rfl rfl (jlw_cons (jw_d jd_int) (jlw_cons (jw_dispT (u0 hr) (jd_fz (jw_tup (jl_cons jd_int (jl_cons (jd_var (pv 1)) jl_nil)))) jd_bl) jlw_nil)) rfl))
    (jss_cons (js_for hp rfl (ji_rng1 rfl (n_range z) (jl_cons (jd_fz (jw_add (jo_v (pv 2)) (jo_e jd_int))) jl_nil)) (jg_name (pg_name sc_cyclic_run.nd rfl (.inl rfl)))
    (jss_cons (js_if (jt_c (cEq hr.units) (jo_v (pv 1)) (jo_e jd_str))
    (jss_one (js_ret (jw_tup (jl_cons jd_str (jl_cons (jd_var (pv 5)) (jl_cons (jd_var (pv 3)) (jl_cons (jd_var (pv 1)) jl_nil)))))))
    jss_nil)
    (jss_cons (js_if (jt_c (cEq hr.units) (jo_v (pv 5)) (jo_v (pv 2)))
    (jss_one js_break)
    jss_nil)
    (jss_cons (js_set (i := 1) sc_cyclic_run.nd rfl (.inl rfl) (jw_add (jo_e (jd_fz (jw_sl (jo_v (pv 1)) (jp_e jd_int) jp_none))) (jo_e (jd_fz (jw_if (jt_c (cEq hr.units) (jo_e (jd_fz (jw_ix (u1 hr) (jo_v (pv 1)) (jo_e jd_int)))) (jo_e jd_str)) (jw_ix (u1 hr) (jo_v (pv 0)) (jo_v (pv 3))) (jw_d jd_str))))))
    (jss_cons (js_set (i := 3) sc_cyclic_run.nd rfl (.inl rfl) (jw_mod (jo_e (jd_fz (jw_add (jo_v (pv 3)) (jo_e jd_int)))) (jo_e (jd_fz (jw_len rfl (n_len z) (jos_cons (jo_v (pv 0)) jos_nil))))))
    (jss_cons (js_if (jt_in (u1 hr) (jo_e (jd_fz (jw_tup (jl_cons (jd_var (pv 3)) (jl_cons (jd_var (pv 1)) jl_nil))))) (jo_v (pv 4)))
    (jss_one (js_ret (jw_tup (jl_cons jd_str (jl_cons (jd_fz (jw_add (jo_v (pv 5)) (jo_e jd_int))) (jl_cons (jd_var (pv 3)) (jl_cons (jd_var (pv 1)) jl_nil)))))))
    jss_nil)
    (jss_one (js_put (ps_asg jd_bl (pg_sub (jo_v (pv 4)) (jd_fz (jw_tup (jl_cons (jd_var (pv 3)) (jl_cons (jd_var (pv 1)) jl_nil)))) (set_any (u1 hr))))))))))))
    (jss_one (js_ret (jw_tup (jl_cons jd_str (jl_cons (jd_var (pv 2)) (jl_cons (jd_var (pv 3)) (jl_cons (jd_var (pv 1)) jl_nil))))))))))))

/-! _law_cyclic -/
theorem sc__law_cyclic : FnScope ["system", "word", "steps", "index", "seen", "k"] ["system", "word", "steps"] d__law_cyclic.scope := ⟨rfl, rfl, rfl, by decide +kernel, rfl, by decide +kernel, by decide +kernel⟩
theorem bn__law_cyclic : BindN d__law_cyclic ["system", "word", "steps"] := ⟨rfl, fun _ _ _ _ _ _ us hl => match us, hl with | [_, _, _], _ => rfl⟩
theorem ok__law_cyclic {P : Program} {w : World} {K : PySem.W.Frag} {mg : Str → Option Value} {base : Heap} (z : HD K mg) : FOk P w K mg base d__law_cyclic 1 ["system", "word", "steps"] 3 f__law_cyclic :=
  FOk.mk' (N := ["system", "word", "steps", "index", "seen", "k"]) (b := b__law_cyclic) (by obtain ⟨h, X, G, c⟩ := z; exact c.says.def_ 11 (d := d__law_cyclic) rfl) sc__law_cyclic rfl fun f cdv A outer s H E hr tk hp => (jss_cons (js_par2 (ps_par (i := 3) (j := 4) rfl sc__law_cyclic.nd rfl rfl (by decide) rfl rfl (jlw_cons (jw_d jd_int) (jlw_cons (jw_dispT (u0 hr) (jd_fz (jw_tup (jl_cons (jd_var (pv 1)) (jl_cons jd_int jl_nil)))) jd_bl) jlw_nil)) rfl))
    (jss_cons (js_for hp rfl (ji_rng1 rfl (n_range z) (jl_cons (jd_var (pv 2)) jl_nil)) (jg_name (pg_name sc__law_cyclic.nd rfl (.inl rfl)))
    (jss_cons (js_if (jt_c (cEq hr.units) (jo_v (pv 1)) (jo_e jd_str))
    (jss_one (js_ret (jw_tup (jl_cons jd_str (jl_cons (jd_var (pv 5)) (jl_cons (jd_var (pv 3)) (jl_cons (jd_var (pv 1)) jl_nil)))))))
    jss_nil)
    (jss_cons (js_par2 (ps_par (i := 1) (j := 3) rfl sc__law_cyclic.nd rfl rfl (by decide) rfl rfl (jlw_cons (jw_add (jo_e (jd_fz (jw_sl (jo_v (pv 1)) (jp_e jd_int) jp_none))) (jo_e (jd_fz (jw_if (jt_c (cEq hr.units) (jo_e (jd_fz (jw_ix (u1 hr) (jo_v (pv 1)) (jo_e jd_int)))) (jo_e jd_str)) (jw_ix (u1 hr) (jo_v (pv 0)) (jo_v (pv 3))) (jw_d jd_str))))) (jlw_cons (jw_mod (jo_e (jd_fz (jw_add (jo_v (pv 3)) (jo_e jd_int)))) (jo_e (jd_fz (jw_len rfl (n_len z) (jos_cons (jo_v (pv 0)) jos_nil))))) jlw_nil)) rfl))
    (jss_cons (js_if (jt_in (u1 hr) (jo_e (jd_fz (jw_tup (jl_cons (jd_var (pv 1)) (jl_cons (jd_var (pv 3)) jl_nil))))) (jo_v (pv 4)))
    (jss_one (js_ret (jw_tup (jl_cons jd_str (jl_cons (jd_fz (jw_add (jo_v (pv 5)) (jo_e jd_int))) (jl_cons (jd_var (pv 3)) (jl_cons (jd_var (pv 1)) jl_nil)))))))
    jss_nil)
    (jss_one (js_put (ps_asg jd_bl (pg_sub (jo_v (pv 4)) (jd_fz (jw_tup (jl_cons (jd_var (pv 1)) (jl_cons (jd_var (pv 3)) jl_nil)))) (set_any (u1 hr))))))))))
    (jss_one (js_ret (jw_tup (jl_cons (jd_fz (jw_if (jt_c (cEq hr.units) (jo_v (pv 1)) (jo_e jd_str)) (jw_d jd_str) (jw_d jd_str))) (jl_cons (jd_var (pv 2)) (jl_cons (jd_var (pv 3)) (jl_cons (jd_var (pv 1)) jl_nil)))))))))

/-! _law_any_cyclic_right -/
theorem sc__law_any_cyclic_right : FnScope ["box", "by_name", "system", "k", "j", "word", "steps", "told"] ["box", "by_name"] d__law_any_cyclic_right.scope := ⟨rfl, rfl, rfl, by decide +kernel, rfl, by decide +kernel, by decide +kernel⟩
theorem bn__law_any_cyclic_right : BindN d__law_any_cyclic_right ["box", "by_name"] := ⟨rfl, fun _ _ _ _ _ _ us hl => match us, hl with | [_, _], _ => rfl⟩
theorem ok__law_any_cyclic_right {P : Program} {w : World} {K : PySem.W.Frag} {mg : Str → Option Value} {base : Heap} (z : HD K mg) : FOk P w K mg base d__law_any_cyclic_right 8 ["box", "by_name"] 2 f__law_any_cyclic_right :=
  FOk.mk' (N := ["box", "by_name", "system", "k", "j", "word", "steps", "told"]) (b := b__law_any_cyclic_right) (by obtain ⟨h, X, G, c⟩ := z; exact c.says.def_ 12 (d := d__law_any_cyclic_right) rfl) sc__law_any_cyclic_right rfl fun f cdv A outer s H E hr tk hp => (jss_cons (js_set (i := 2) sc__law_any_cyclic_right.nd rfl (.inl rfl) (jw_tuple rfl rfl (n_tuple z) (jos_cons (jo_e (jd_fz (jw_comp (own := [("j", 4)]) rfl sc__law_any_cyclic_right.nd (ji_rng1 rfl (n_range z) (jl_cons (jd_fz (jw_add (jo_e jd_int) (jo_e (jd_fz (jw_f (ok__law_take z) (hr.mono (by decide)) tk rfl (m__law_take z) bn__law_take (jl_cons (jd_ref (pv 0)) (jl_cons jd_int jl_nil))))))) jl_nil)) (blkOk_by (own := [("j", 4)]) (by kernel_rfl)) (fun _ _ _ _ _ => jg_ct (pg_name sc__law_any_cyclic_right.nd rfl (.inl rfl))) (fun _ _ _ _ _ => jts_nil) (fun _ _ _ _ _ => (jd_fz (jw_join (jo_e jd_str) (jos_cons (jo_e (jd_fz (jw_comp (own := [("k", 3)]) rfl sc__law_any_cyclic_right.nd (ji_rng1 rfl (n_range z) (jl_cons (jd_fz (jw_f (ok__law_take z) (hr.mono (by decide)) (takes0 _) rfl (m__law_take z) bn__law_take (jl_cons (jd_ref (pv 0)) (jl_cons jd_int jl_nil)))) jl_nil)) (blkOk_by (own := [("k", 3)]) (by kernel_rfl)) (fun _ _ _ _ _ => jg_ct (pg_name sc__law_any_cyclic_right.nd rfl (.inl rfl))) (fun _ _ _ _ _ => jts_nil) (fun _ _ _ _ _ => (jd_fz (jw_ix (u1 hr) (jo_e jd_str) (jo_e (jd_fz (jw_f (ok__law_take z) (hr.mono (by decide)) (takes0 _) rfl (m__law_take z) bn__law_take (jl_cons (jd_ref (pv 0)) (jl_cons jd_int jl_nil)))))))) (by decide)))) jos_nil)))) (by decide)))) jos_nil)))
    (jss_cons (js_par2 (ps_par (i := 5) (j := 6) rfl sc__law_any_cyclic_right.nd rfl rfl (by decide) rfl rfl (jlw_cons (jw_join (jo_e jd_str) (jos_cons (jo_e (jd_fz (jw_comp (own := [("k", 3)]) rfl sc__law_any_cyclic_right.nd (ji_rng1 rfl (n_range z) (jl_cons (jd_fz (jw_f (ok__law_take z) (hr.mono (by decide)) tk rfl (m__law_take z) bn__law_take (jl_cons (jd_ref (pv 0)) (jl_cons jd_int jl_nil)))) jl_nil)) (blkOk_by (own := [("k", 3)]) (by kernel_rfl)) (fun _ _ _ _ _ => jg_ct (pg_name sc__law_any_cyclic_right.nd rfl (.inl rfl))) (fun _ _ _ _ _ => jts_nil) (fun _ _ _ _ _ => (jd_fz (jw_ix (u1 hr) (jo_e jd_str) (jo_e (jd_fz (jw_f (ok__law_take z) (hr.mono (by decide)) (takes0 _) rfl (m__law_take z) bn__law_take (jl_cons (jd_ref (pv 0)) (jl_cons jd_int jl_nil)))))))) (by decide)))) jos_nil)) (jlw_cons (jw_ix (u1 hr) (jo_e (jd_fz (jw_lst (jl_cons jd_int (jl_cons jd_int (jl_cons jd_int (jl_cons jd_int (jl_cons jd_int jl_nil)))))))) (jo_e (jd_fz (jw_f (ok__law_take z) (hr.mono (by decide)) tk rfl (m__law_take z) bn__law_take (jl_cons (jd_ref (pv 0)) (jl_cons jd_int jl_nil)))))) jlw_nil)) rfl))
    (jss_cons (js_set (i := 7) sc__law_any_cyclic_right.nd rfl (.inl rfl) (jw_if (jt_val (jw_d (jd_var (pv 1)))) (jw_fK0 (ks := ["steps", "word", "system"]) (pe := [2, 1, 0]) (ok_cyclic_run z) (hr.mono (by decide)) tk rfl (m_cyclic_run z) bk_cyclic_run_0 (jk_cons (jd_var (pv 6)) (jk_cons (jd_var (pv 5)) (jk_cons (jd_var (pv 2)) jk_nil))) (fun _ _ _ h => len_cons (fun _ _ _ h => len_cons (fun _ _ _ h => len_cons (fun _ _ _ h => len_nil h) h) h) h)) (jw_f (ok_cyclic_run z) (hr.mono (by decide)) tk rfl (m_cyclic_run z) bn_cyclic_run (jl_cons (jd_var (pv 2)) (jl_cons (jd_var (pv 5)) (jl_cons (jd_var (pv 6)) jl_nil))))))
    (jss_one (js_ret (jw_f (ok__law_same z 6) (hr.mono (by decide)) tk rfl (m__law_same z) bn__law_same (jl_cons (jd_var (pv 7)) (jl_cons (jd_fz (jw_f (ok__law_cyclic z) (hr.mono (by decide)) tk rfl (m__law_cyclic z) bn__law_cyclic (jl_cons (jd_var (pv 2)) (jl_cons (jd_var (pv 5)) (jl_cons (jd_var (pv 6)) jl_nil))))) jl_nil))))))))

/-! are_rules -/
theorem sc_are_rules : FnScope ["value", "word"] ["value"] d_are_rules.scope := ⟨rfl, rfl, rfl, by decide +kernel, rfl, by decide +kernel, by decide +kernel⟩
theorem bn_are_rules : BindN d_are_rules ["value"] := ⟨rfl, fun _ _ _ _ _ _ us hl => match us, hl with | [_], _ => rfl⟩
theorem ok_are_rules {P : Program} {w : World} {K : PySem.W.Frag} {mg : Str → Option Value} {base : Heap} (z : HD K mg) : FOk P w K mg base d_are_rules 2 ["value"] 1 f_are_rules :=
  FOk.mk' (N := ["value", "word"]) (b := b_are_rules) (by obtain ⟨h, X, G, c⟩ := z; exact c.says.def_ 13 (d := d_are_rules) rfl) sc_are_rules rfl fun f cdv A outer s H E hr tk hp => (jss_cons (js_if (jt_w (jtw_or (jt_not (jt_val (jw_isi (isi z) rfl (n_isinstance z) (jos_cons (jo_v (pv 0)) (jos_cons (jo_e (jd_ty rfl (n_tuple z) bt_tuple)) jos_nil))))) (jtw_or1 (jt_not (jt_chain cLe cLe (jo_e jd_int) (jo_e (jd_fz (jw_len rfl (n_len z) (jos_cons (jo_v (pv 0)) jos_nil)))) (jo_e (jd_fz (jw_len rfl (n_len z) (jos_cons (jo_e (jd_gstr rfl (m_LETTERS_tags z))) jos_nil)))))))))
    (jss_one (js_ret (jw_d jd_bl)))
    jss_nil)
    (jss_one (js_ret (jw_all rfl rfl (n_all z) (jos_cons (jo_e (jd_fz (jw_comp (own := [("word", 1)]) rfl sc_are_rules.nd (ji_seq (jd_var (pv 0))) (blkOk_by (own := [("word", 1)]) (by kernel_rfl)) (fun _ _ _ _ _ => jg_ct (pg_name sc_are_rules.nd rfl (.inl rfl))) (fun _ _ _ _ _ => jts_nil) (fun _ _ _ _ _ => (jd_fz (jw_f (ok_is_word_of z) (hr.mono (by decide)) (takes0 _) rfl (m_is_word_of z) bn_is_word_of (jl_cons (jd_var (pv 1)) (jl_cons (jd_fz (jw_sl (jo_e (jd_gstr rfl (m_LETTERS_tags z))) jp_none (jp_e (jd_fz (jw_len rfl (n_len z) (jos_cons (jo_v (pv 0)) jos_nil)))))) (jl_cons (jd_gint rfl (m_MOST_RULE_tags z)) jl_nil)))))) (by decide)))) jos_nil)))))

/-! Tags_init -/
theorem sc_Tags_init : FnScope ["self", "take", "rules"] ["self", "take", "rules"] d_Tags_init.scope := ⟨rfl, rfl, rfl, by decide +kernel, rfl, by decide +kernel, by decide +kernel⟩
theorem bn_Tags_init : BindN d_Tags_init ["self", "take", "rules"] := ⟨rfl, fun _ _ _ _ _ _ us hl => match us, hl with | [_, _, _], _ => rfl⟩
theorem bk_Tags_init_2 : BindK d_Tags_init ["self", "take", "rules"] ["rules", "take"] 1 [0, 2, 1] := ⟨rfl, fun _ _ _ _ _ _ us ws h1 h2 => match us, ws, h1, h2 with | [_], [_, _], _, _ => rfl⟩
theorem ok_Tags_init {P : Program} {w : World} {K : PySem.W.Frag} {mg : Str → Option Value} {base : Heap} (z : HD K mg) : FOk P w K mg base d_Tags_init 3 ["self", "take", "rules"] 3 f_Tags_init :=
  FOk.mk' (N := ["self", "take", "rules"]) (b := b_Tags_init) (by obtain ⟨h, X, G, c⟩ := z; exact c.says.def_ 14 (d := d_Tags_init) rfl) sc_Tags_init rfl fun f cdv A outer s H E hr tk hp => (jss_cons (js_if (jt_not (jt_val (jw_f (ok_is_between z) (hr.mono (by decide)) tk rfl (m_is_between z) bn_is_between (jl_cons (jd_var (pv 1)) (jl_cons jd_int (jl_cons (jd_gint rfl (m_MOST_TAKE_tags z)) jl_nil))))))
    (jss_one js_never)
    jss_nil)
    (jss_cons (js_if (jt_not (jt_val (jw_f (ok_are_rules z) (hr.mono (by decide)) tk rfl (m_are_rules z) bn_are_rules (jl_cons (jd_var (pv 2)) jl_nil))))
    (jss_one js_never)
    jss_nil)
    (jss_cons (js_fld (fo_take z) (jo_v (pv 0)) (jd_var (pv 1)))
    (jss_one (js_fld (fo_rules z) (jo_v (pv 0)) (jd_var (pv 2)))))))

/-! collatz_tags -/
theorem sc_collatz_tags : FnScope [] [] d_collatz_tags.scope := ⟨rfl, rfl, rfl, by decide +kernel, rfl, by decide +kernel, by decide +kernel⟩
theorem bn_collatz_tags : BindN d_collatz_tags [] := ⟨rfl, fun _ _ _ _ _ _ us hl => match us, hl with | [], _ => rfl⟩
theorem ok_collatz_tags {P : Program} {w : World} {K : PySem.W.Frag} {mg : Str → Option Value} {base : Heap} (z : HD K mg) : FOk P w K mg base d_collatz_tags 5 [] 0 f_collatz_tags :=
  FOk.mk' (N := []) (b := b_collatz_tags) (by obtain ⟨h, X, G, c⟩ := z; exact c.says.def_ 15 (d := d_collatz_tags) rfl) sc_collatz_tags rfl fun f cdv A outer s H E hr tk hp => (jss_one (js_ret (jw_new (d := d_Tags_init) (E := E) (mk_Tags z) (ok_Tags_init z) (hr.mono (by decide)) tk rfl (m_Tags z) bn_Tags_init (jl_cons jd_int (jl_cons (jd_fz (jw_tup (jl_cons jd_str (jl_cons jd_str (jl_cons jd_str jl_nil))))) jl_nil)))))

/-! check_word -/
theorem sc_check_word : FnScope ["tags", "word"] ["tags", "word"] d_check_word.scope := ⟨rfl, rfl, rfl, by decide +kernel, rfl, by decide +kernel, by decide +kernel⟩
theorem bn_check_word : BindN d_check_word ["tags", "word"] := ⟨rfl, fun _ _ _ _ _ _ us hl => match us, hl with | [_, _], _ => rfl⟩
theorem ok_check_word {P : Program} {w : World} {K : PySem.W.Frag} {mg : Str → Option Value} {base : Heap} (z : HD K mg) : FOk P w K mg base d_check_word 2 ["tags", "word"] 2 f_check_word :=
  FOk.mk' (N := ["tags", "word"]) (b := b_check_word) (by obtain ⟨h, X, G, c⟩ := z; exact c.says.def_ 16 (d := d_check_word) rfl) sc_check_word rfl fun f cdv A outer s H E hr tk hp => (jss_one (js_if (jt_not (jt_val (jw_f (ok_is_word_of z) (hr.mono (by decide)) tk rfl (m_is_word_of z) bn_is_word_of (jl_cons (jd_var (pv 1)) (jl_cons (jd_fz (jw_sl (jo_e (jd_gstr rfl (m_LETTERS_tags z))) jp_none (jp_e (jd_fz (jw_len rfl (n_len z) (jos_cons (jo_e (jd_fz (jw_fld (fo_rules z) (jo_v (pv 0))))) jos_nil)))))) (jl_cons (jd_gint rfl (m_MOST_WORD_tags z)) jl_nil))))))
    (jss_one js_never)
    jss_nil))

/-! stepped -/
theorem sc_stepped : FnScope ["tags", "word"] ["tags", "word"] d_stepped.scope := ⟨rfl, rfl, rfl, by decide +kernel, rfl, by decide +kernel, by decide +kernel⟩
theorem bn_stepped : BindN d_stepped ["tags", "word"] := ⟨rfl, fun _ _ _ _ _ _ us hl => match us, hl with | [_, _], _ => rfl⟩
theorem ok_stepped {P : Program} {w : World} {K : PySem.W.Frag} {mg : Str → Option Value} {base : Heap} (z : HD K mg) : FOk P w K mg base d_stepped 1 ["tags", "word"] 2 f_stepped :=
  FOk.mk' (N := ["tags", "word"]) (b := b_stepped) (by obtain ⟨h, X, G, c⟩ := z; exact c.says.def_ 17 (d := d_stepped) rfl) sc_stepped rfl fun f cdv A outer s H E hr tk hp => (jss_cons (js_if (jt_c cLt (jo_e (jd_fz (jw_len rfl (n_len z) (jos_cons (jo_v (pv 1)) jos_nil)))) (jo_e (jd_fz (jw_fld (fo_take z) (jo_v (pv 0))))))
    (jss_one (js_ret (jw_d jd_non)))
    jss_nil)
    (jss_one (js_ret (jw_add (jo_e (jd_fz (jw_sl (jo_v (pv 1)) (jp_e (jd_fz (jw_fld (fo_take z) (jo_v (pv 0))))) jp_none))) (jo_e (jd_fz (jw_ix (u1 hr) (jo_e (jd_fz (jw_fld (fo_rules z) (jo_v (pv 0))))) (jo_e (jd_fz (jw_sindex (jo_e (jd_gstr rfl (m_LETTERS_tags z))) (jos_cons (jo_e (jd_fz (jw_ix (u1 hr) (jo_v (pv 1)) (jo_e jd_int)))) jos_nil)))))))))))

/-! next_tag -/
theorem sc_next_tag : FnScope ["tags", "word"] ["tags", "word"] d_next_tag.scope := ⟨rfl, rfl, rfl, by decide +kernel, rfl, by decide +kernel, by decide +kernel⟩
theorem bn_next_tag : BindN d_next_tag ["tags", "word"] := ⟨rfl, fun _ _ _ _ _ _ us hl => match us, hl with | [_, _], _ => rfl⟩
theorem bk_next_tag_5 : BindK d_next_tag ["tags", "word"] ["word", "tags"] 0 [1, 0] := ⟨rfl, fun _ _ _ _ _ _ us ws h1 h2 => match us, ws, h1, h2 with | [], [_, _], _, _ => rfl⟩
theorem ok_next_tag {P : Program} {w : World} {K : PySem.W.Frag} {mg : Str → Option Value} {base : Heap} (z : HD K mg) : FOk P w K mg base d_next_tag 3 ["tags", "word"] 2 f_next_tag :=
  FOk.mk' (N := ["tags", "word"]) (b := b_next_tag) (by obtain ⟨h, X, G, c⟩ := z; exact c.says.def_ 18 (d := d_next_tag) rfl) sc_next_tag rfl fun f cdv A outer s H E hr tk hp => (jss_cons (js_expr (jw_f (ok_check_word z) (hr.mono (by decide)) tk rfl (m_check_word z) bn_check_word (jl_cons (jd_var (pv 0)) (jl_cons (jd_var (pv 1)) jl_nil))))
    (jss_one (js_ret (jw_f (ok_stepped z) (hr.mono (by decide)) tk rfl (m_stepped z) bn_stepped (jl_cons (jd_var (pv 0)) (jl_cons (jd_var (pv 1)) jl_nil))))))

/-! _law_next_tag -/
theorem sc__law_next_tag : FnScope ["take", "rules", "word"] ["take", "rules", "word"] d__law_next_tag.scope := ⟨rfl, rfl, rfl, by decide +kernel, rfl, by decide +kernel, by decide +kernel⟩
theorem bn__law_next_tag : BindN d__law_next_tag ["take", "rules", "word"] := ⟨rfl, fun _ _ _ _ _ _ us hl => match us, hl with | [_, _, _], _ => rfl⟩
theorem ok__law_next_tag {P : Program} {w : World} {K : PySem.W.Frag} {mg : Str → Option Value} {base : Heap} (z : HD K mg) : FOk P w K mg base d__law_next_tag 1 ["take", "rules", "word"] 3 f__law_next_tag :=
  FOk.mk' (N := ["take", "rules", "word"]) (b := b__law_next_tag) (by obtain ⟨h, X, G, c⟩ := z; exact c.says.def_ 19 (d := d__law_next_tag) rfl) sc__law_next_tag rfl fun f cdv A outer s H E hr tk hp => (jss_one (js_ret (jw_if (jt_c cGe (jo_e (jd_fz (jw_len rfl (n_len z) (jos_cons (jo_v (pv 2)) jos_nil)))) (jo_v (pv 0))) (jw_add (jo_e (jd_fz (jw_sl (jo_v (pv 2)) (jp_e (jd_var (pv 0))) jp_none))) (jo_e (jd_fz (jw_ix (u1 hr) (jo_v (pv 1)) (jo_e (jd_fz (jw_sindex (jo_e jd_str) (jos_cons (jo_e (jd_fz (jw_ix (u1 hr) (jo_v (pv 2)) (jo_e jd_int)))) jos_nil)))))))) (jw_d jd_non))))

/-! collatz_steps -/
theorem sc_collatz_steps : FnScope ["number", "found"] ["number"] d_collatz_steps.scope := ⟨rfl, rfl, rfl, by decide +kernel, rfl, by decide +kernel, by decide +kernel⟩
theorem bn_collatz_steps : BindN d_collatz_steps ["number"] := ⟨rfl, fun _ _ _ _ _ _ us hl => match us, hl with | [_], _ => rfl⟩
theorem bk_collatz_steps_1 : BindK d_collatz_steps ["number"] ["number"] 0 [0] := ⟨rfl, fun _ _ _ _ _ _ us ws h1 h2 => match us, ws, h1, h2 with | [], [_], _, _ => rfl⟩
theorem ok_collatz_steps {P : Program} {w : World} {K : PySem.W.Frag} {mg : Str → Option Value} {base : Heap} (z : HD K mg) : FOk P w K mg base d_collatz_steps 3 ["number"] 1 f_collatz_steps :=
  FOk.mk' (N := ["number", "found"]) (b := b_collatz_steps) (by obtain ⟨h, X, G, c⟩ := z; exact c.says.def_ 20 (d := d_collatz_steps) rfl) sc_collatz_steps rfl fun f cdv A outer s H E hr tk hp => (jss_cons (js_if (jt_not (jt_val (jw_f (ok_is_between z) (hr.mono (by decide)) tk rfl (m_is_between z) bn_is_between (jl_cons (jd_var (pv 0)) (jl_cons jd_int (jl_cons (jd_gint rfl (m_MOST_NUMBER z)) jl_nil))))))
    (jss_one js_never)
    jss_nil)
    (jss_cons (js_set (i := 1) sc_collatz_steps.nd rfl (.inl rfl) (jw_d jd_int))
    (jss_cons (js_while (n := 1000000) hp (jt_c cGt (jo_v (pv 0)) (jo_e jd_int))
    (jss_cons (js_augAdd (i := 1) sc_collatz_steps.nd rfl (.inl rfl) (jd_fz (jw_add (jo_v (pv 0)) (jo_e (jd_fz (jw_mod (jo_v (pv 0)) (jo_e jd_int)))))))
    (jss_one (js_set (i := 0) sc_collatz_steps.nd rfl (.inl rfl) (jw_if (jt_c (cEq hr.units) (jo_e (jd_fz (jw_mod (jo_v (pv 0)) (jo_e jd_int)))) (jo_e jd_int)) (jw_fdiv (jo_v (pv 0)) (jo_e jd_int)) (jw_fdiv (jo_e (jd_fz (jw_add (jo_e (jd_fz (jw_mul (jo_e jd_int) (jo_v (pv 0))))) (jo_e jd_int)))) (jo_e jd_int)))))))
    (jss_one (js_retV (pv 1))))))

/-! _law_collatz_right -/
theorem sc__law_collatz_right : FnScope ["box", "by_name", "tags", "number", "word", "count", "plain", "letter", "k", "before", "at", "after", "turn"] ["box", "by_name"] d__law_collatz_right.scope := ⟨rfl, rfl, rfl, by decide +kernel, rfl, by decide +kernel, by decide +kernel⟩
theorem bn__law_collatz_right : BindN d__law_collatz_right ["box", "by_name"] := ⟨rfl, fun _ _ _ _ _ _ us hl => match us, hl with | [_, _], _ => rfl⟩
theorem ok__law_collatz_right {P : Program} {w : World} {K : PySem.W.Frag} {mg : Str → Option Value} {base : Heap} (z : HD K mg) : FOk P w K mg base d__law_collatz_right 8 ["box", "by_name"] 2 f__law_collatz_right :=
  FOk.mk' (N := ["box", "by_name", "tags", "number", "word", "count", "plain", "letter", "k", "before", "at", "after", "turn"]) (b := b__law_collatz_right) (by obtain ⟨h, X, G, c⟩ := z; exact c.says.def_ 21 (d := d__law_collatz_right) rfl) sc__law_collatz_right rfl fun f cdv A outer s H E hr tk hp => (jss_cons (js_set (i := 2) sc__law_collatz_right.nd rfl (.inl rfl) (jw_f0 (ok_collatz_tags z) (hr.mono (by decide)) tk rfl (m_collatz_tags z) bn_collatz_tags))
    (jss_cons (js_if (jt_w (jtw_or (jt_not (jt_val (jw_isi (isi z) rfl (n_isinstance z) (jos_cons (jo_v (pv 2)) (jos_cons (jo_e (jd_gcls rfl (m_Tags z))) jos_nil))))) (jtw_or1 (jt_not (jt_val (jw_f (ok__law_same z 6) (hr.mono (by decide)) tk rfl (m__law_same z) bn__law_same (jl_cons (jd_fz (jw_lst (jl_cons (jd_fz (jw_fld (fo_take z) (jo_v (pv 2)))) (jl_cons (jd_fz (jw_fld (fo_rules z) (jo_v (pv 2)))) jl_nil)))) (jl_cons (jd_fz (jw_lst (jl_cons jd_int (jl_cons (jd_fz (jw_tup (jl_cons jd_str (jl_cons jd_str (jl_cons jd_str jl_nil))))) jl_nil)))) jl_nil))))))))
    (jss_one (js_ret (jw_d jd_bl)))
    jss_nil)
    (jss_cons (js_for hp rfl (ji_seq (jd_fz (jw_lst (jl_cons (jd_fz (jw_add (jo_e jd_int) (jo_e (jd_fz (jw_f (ok__law_take z) (hr.mono (by decide)) tk rfl (m__law_take z) bn__law_take (jl_cons (jd_ref (pv 0)) (jl_cons jd_int jl_nil))))))) (jl_cons (jd_fz (jw_add (jo_e jd_int) (jo_e (jd_fz (jw_f (ok__law_take z) (hr.mono (by decide)) tk rfl (m__law_take z) bn__law_take (jl_cons (jd_ref (pv 0)) (jl_cons jd_int jl_nil))))))) jl_nil))))) (jg_name (pg_name sc__law_collatz_right.nd rfl (.inl rfl)))
    (jss_cons (js_par3 (ps_par3 (i := 4) (j := 5) (l := 6) rfl sc__law_collatz_right.nd rfl rfl rfl (by decide) (by decide) (by decide) rfl rfl rfl (jlw_cons (jw_mul (jo_e jd_str) (jo_v (pv 3))) (jlw_cons (jw_d jd_int) (jlw_cons (jw_lst (jl_cons (jd_var (pv 3)) jl_nil)) jlw_nil))) rfl))
    (jss_cons (js_while (n := 1000000) hp (jt_c (cNe hr.units) (jo_v (pv 4)) (jo_e jd_str))
    (jss_cons (js_par2 (ps_par (i := 4) (j := 5) rfl sc__law_collatz_right.nd rfl rfl (by decide) rfl rfl (jlw_cons (jw_f (ok__law_next_tag z) (hr.mono (by decide)) tk rfl (m__law_next_tag z) bn__law_next_tag (jl_cons jd_int (jl_cons (jd_fz (jw_tup (jl_cons jd_str (jl_cons jd_str (jl_cons jd_str jl_nil))))) (jl_cons (jd_var (pv 4)) jl_nil)))) (jlw_cons (jw_add (jo_v (pv 5)) (jo_e jd_int)) jlw_nil)) rfl))
    (jss_one (js_if (jt_c (cEq hr.units) (jo_e (jd_fz (jw_comp (own := [("letter", 7)]) rfl sc__law_collatz_right.nd (ji_seq (jd_var (pv 4))) (blkOk_by (own := [("letter", 7)]) (by kernel_rfl)) (fun _ _ _ _ _ => jg_ct (pg_name sc__law_collatz_right.nd rfl (.inl rfl))) (fun _ _ _ _ _ => jts_one (jt_c (cNe hr.units) (jo_v (pv 7)) (jo_e jd_str))) (fun _ _ _ _ _ => (jd_var (pv 7))) (by decide)))) (jo_e (jd_fz (jw_lst jl_nil))))
    (jss_one (js_expr (jw_append (jo_v (pv 6)) (jl_cons (jd_fz (jw_len rfl (n_len z) (jos_cons (jo_v (pv 4)) jos_nil))) jl_nil))))
    jss_nil))))
    (jss_cons (js_if (jt_not (jt_val (jw_f (ok__law_same z 6) (hr.mono (by decide)) tk rfl (m__law_same z) bn__law_same (jl_cons (jd_fz (jw_if (jt_val (jw_d (jd_var (pv 1)))) (jw_fK0 (ks := ["number"]) (pe := [0]) (ok_collatz_steps z) (hr.mono (by decide)) tk rfl (m_collatz_steps z) bk_collatz_steps_1 (jk_cons (jd_var (pv 3)) jk_nil) (fun _ _ _ h => len_cons (fun _ _ _ h => len_nil h) h)) (jw_f (ok_collatz_steps z) (hr.mono (by decide)) tk rfl (m_collatz_steps z) bn_collatz_steps (jl_cons (jd_var (pv 3)) jl_nil)))) (jl_cons (jd_var (pv 5)) jl_nil)))))
    (jss_one (js_ret (jw_d jd_bl)))
    jss_nil)
    (jss_cons (js_for hp rfl (ji_rng2 rfl (n_range z) (jl_cons jd_int (jl_cons (jd_fz (jw_len rfl (n_len z) (jos_cons (jo_v (pv 6)) jos_nil))) jl_nil))) (jg_name (pg_name sc__law_collatz_right.nd rfl (.inl rfl)))
    (jss_cons (js_set (i := 9) sc__law_collatz_right.nd rfl (.inl rfl) (jw_ix (u1 hr) (jo_v (pv 6)) (jo_e (jd_fz (jw_sub (jo_v (pv 8)) (jo_e jd_int))))))
    (jss_one (js_if (jt_c (cNe hr.units) (jo_e (jd_fz (jw_ix (u1 hr) (jo_v (pv 6)) (jo_v (pv 8))))) (jo_e (jd_fz (jw_if (jt_c (cEq hr.units) (jo_e (jd_fz (jw_mod (jo_v (pv 9)) (jo_e jd_int)))) (jo_e jd_int)) (jw_fdiv (jo_v (pv 9)) (jo_e jd_int)) (jw_fdiv (jo_e (jd_fz (jw_add (jo_e (jd_fz (jw_mul (jo_e jd_int) (jo_v (pv 9))))) (jo_e jd_int)))) (jo_e jd_int))))))
    (jss_one (js_ret (jw_d jd_bl)))
    jss_nil))))
    (jss_cons (js_set (i := 10) sc__law_collatz_right.nd rfl (.inl rfl) (jw_f (ok__law_take z) (hr.mono (by decide)) tk rfl (m__law_take z) bn__law_take (jl_cons (jd_ref (pv 0)) (jl_cons (jd_fz (jw_len rfl (n_len z) (jos_cons (jo_v (pv 6)) jos_nil))) jl_nil))))
    (jss_cons (js_set (i := 11) sc__law_collatz_right.nd rfl (.inl rfl) (jw_mul (jo_e jd_str) (jo_e (jd_fz (jw_ix (u1 hr) (jo_v (pv 6)) (jo_v (pv 10)))))))
    (jss_cons (js_for hp rfl (ji_rng1 rfl (n_range z) (jl_cons (jd_fz (jw_if (jt_c (cEq hr.units) (jo_e (jd_fz (jw_mod (jo_e (jd_fz (jw_ix (u1 hr) (jo_v (pv 6)) (jo_v (pv 10))))) (jo_e jd_int)))) (jo_e jd_int)) (jw_ix (u1 hr) (jo_v (pv 6)) (jo_v (pv 10))) (jw_add (jo_e (jd_fz (jw_ix (u1 hr) (jo_v (pv 6)) (jo_v (pv 10))))) (jo_e jd_int)))) jl_nil)) (jg_name (pg_name sc__law_collatz_right.nd rfl (.inl rfl)))
    (jss_cons (js_if (jt_w (jtw_or (jt_c cGt (jo_e (jd_fz (jw_len rfl (n_len z) (jos_cons (jo_v (pv 11)) jos_nil)))) (jo_e jd_int)) (jtw_or1 (jt_c (cEq hr.units) (jo_v (pv 11)) (jo_e jd_str)))))
    (jss_one js_break)
    jss_nil)
    (jss_one (js_set (i := 11) sc__law_collatz_right.nd rfl (.inl rfl) (jw_f (ok_next_tag z) (hr.mono (by decide)) tk rfl (m_next_tag z) bn_next_tag (jl_cons (jd_var (pv 2)) (jl_cons (jd_var (pv 11)) jl_nil)))))))
    (jss_one (js_if (jt_w (jtw_and (jt_c cGt (jo_e (jd_fz (jw_ix (u1 hr) (jo_v (pv 6)) (jo_v (pv 10))))) (jo_e jd_int)) (jtw_and (jt_c cLt (jo_e (jd_fz (jw_ix (u1 hr) (jo_v (pv 6)) (jo_v (pv 10))))) (jo_e jd_int)) (jtw_and1 (jt_not (jt_val (jw_f (ok__law_same z 6) (hr.mono (by decide)) tk rfl (m__law_same z) bn__law_same (jl_cons (jd_var (pv 11)) (jl_cons (jd_fz (jw_mul (jo_e jd_str) (jo_e (jd_fz (jw_ix (u1 hr) (jo_v (pv 6)) (jo_e (jd_fz (jw_add (jo_v (pv 10)) (jo_e jd_int))))))))) jl_nil)))))))))
    (jss_one (js_ret (jw_d jd_bl)))
    jss_nil))))))))))
    (jss_one (js_ret (jw_d jd_bl))))))

/-! _law_way -/
theorem sc__law_way : FnScope ["take", "rules", "word", "steps", "found", "k", "after"] ["take", "rules", "word", "steps"] d__law_way.scope := ⟨rfl, rfl, rfl, by decide +kernel, rfl, by decide +kernel, by decide +kernel⟩
theorem bn__law_way : BindN d__law_way ["take", "rules", "word", "steps"] := ⟨rfl, fun _ _ _ _ _ _ us hl => match us, hl with | [_, _, _, _], _ => rfl⟩
theorem ok__law_way {P : Program} {w : World} {K : PySem.W.Frag} {mg : Str → Option Value} {base : Heap} (z : HD K mg) : FOk P w K mg base d__law_way 2 ["take", "rules", "word", "steps"] 4 f__law_way :=
  FOk.mk' (N := ["take", "rules", "word", "steps", "found", "k", "after"]) (b := b__law_way) (by obtain ⟨h, X, G, c⟩ := z; exact c.says.def_ 22 (d := d__law_way) rfl) sc__law_way rfl fun f cdv A outer s H E hr tk hp => (jss_cons (js_set (i := 4) sc__law_way.nd rfl (.inl rfl) (jw_lst (jl_cons (jd_var (pv 2)) jl_nil)))
    (jss_cons (js_for hp rfl (ji_rng1 rfl (n_range z) (jl_cons (jd_var (pv 3)) jl_nil)) (jg_name (pg_name sc__law_way.nd rfl (.inl rfl)))
    (jss_cons (js_set (i := 6) sc__law_way.nd rfl (.inl rfl) (jw_f (ok__law_next_tag z) (hr.mono (by decide)) tk rfl (m__law_next_tag z) bn__law_next_tag (jl_cons (jd_var (pv 0)) (jl_cons (jd_var (pv 1)) (jl_cons (jd_fz (jw_ix (u1 hr) (jo_v (pv 4)) (jo_e (jd_fz (jw_neg (jo_e jd_int)))))) jl_nil)))))
    (jss_cons (js_if (jt_c cIs (jo_v (pv 6)) (jo_e jd_non))
    (jss_one (js_ret (jw_tup (jl_cons (jd_var (pv 4)) (jl_cons jd_str jl_nil)))))
    jss_nil)
    (jss_cons (js_expr (jw_append (jo_v (pv 4)) (jl_cons (jd_var (pv 6)) jl_nil)))
    (jss_one (js_if (jt_in (u1 hr) (jo_v (pv 6)) (jo_e (jd_fz (jw_sl (jo_v (pv 4)) jp_none (jp_e (jd_fz (jw_neg (jo_e jd_int))))))))
    (jss_one (js_ret (jw_tup (jl_cons (jd_var (pv 4)) (jl_cons jd_str jl_nil)))))
    jss_nil))))))
    (jss_one (js_ret (jw_tup (jl_cons (jd_var (pv 4)) (jl_cons (jd_fz (jw_if (jt_c cIs (jo_e (jd_fz (jw_f (ok__law_next_tag z) (hr.mono (by decide)) tk rfl (m__law_next_tag z) bn__law_next_tag (jl_cons (jd_var (pv 0)) (jl_cons (jd_var (pv 1)) (jl_cons (jd_fz (jw_ix (u1 hr) (jo_v (pv 4)) (jo_e (jd_fz (jw_neg (jo_e jd_int)))))) jl_nil)))))) (jo_e jd_non)) (jw_d jd_str) (jw_d jd_str))) jl_nil)))))))

/-! is_tuple_of -/
theorem sc_is_tuple_of : FnScope ["value", "many"] ["value", "many"] d_is_tuple_of.scope := ⟨rfl, rfl, rfl, by decide +kernel, rfl, by decide +kernel, by decide +kernel⟩
theorem bn_is_tuple_of : BindN d_is_tuple_of ["value", "many"] := ⟨rfl, fun _ _ _ _ _ _ us hl => match us, hl with | [_, _], _ => rfl⟩
theorem ok_is_tuple_of {P : Program} {w : World} {K : PySem.W.Frag} {mg : Str → Option Value} {base : Heap} (z : HD K mg) : FOk P w K mg base d_is_tuple_of 1 ["value", "many"] 2 f_is_tuple_of :=
  FOk.mk' (N := ["value", "many"]) (b := b_is_tuple_of) (by obtain ⟨h, X, G, c⟩ := z; exact c.says.def_ 23 (d := d_is_tuple_of) rfl) sc_is_tuple_of rfl fun f cdv A outer s H E hr tk hp => (jss_one (js_ret (jw_and (jw_isi (isi z) rfl (n_isinstance z) (jos_cons (jo_v (pv 0)) (jos_cons (jo_e (jd_ty rfl (n_tuple z) bt_tuple)) jos_nil))) (jw_one (jw_c (cEq hr.units) (jo_e (jd_fz (jw_len rfl (n_len z) (jos_cons (jo_v (pv 0)) jos_nil)))) (jo_v (pv 1)))))))

/-! are_names -/
theorem sc_are_names : FnScope ["rules", "value", "most", "name"] ["rules", "value", "most"] d_are_names.scope := ⟨rfl, rfl, rfl, by decide +kernel, rfl, by decide +kernel, by decide +kernel⟩
theorem bn_are_names : BindN d_are_names ["rules", "value", "most"] := ⟨rfl, fun _ _ _ _ _ _ us hl => match us, hl with | [_, _, _], _ => rfl⟩
theorem ok_are_names {P : Program} {w : World} {K : PySem.W.Frag} {mg : Str → Option Value} {base : Heap} (z : HD K mg) : FOk P w K mg base d_are_names 1 ["rules", "value", "most"] 3 f_are_names :=
  FOk.mk' (N := ["rules", "value", "most", "name"]) (b := b_are_names) (by obtain ⟨h, X, G, c⟩ := z; exact c.says.def_ 24 (d := d_are_names) rfl) sc_are_names rfl fun f cdv A outer s H E hr tk hp => (jss_cons (js_if (jt_w (jtw_or (jt_not (jt_val (jw_isi (isi z) rfl (n_isinstance z) (jos_cons (jo_v (pv 1)) (jos_cons (jo_e (jd_ty rfl (n_tuple z) bt_tuple)) jos_nil))))) (jtw_or1 (jt_c cGt (jo_e (jd_fz (jw_len rfl (n_len z) (jos_cons (jo_v (pv 1)) jos_nil)))) (jo_v (pv 2))))))
    (jss_one (js_ret (jw_d jd_bl)))
    jss_nil)
    (jss_one (js_ret (jw_all rfl rfl (n_all z) (jos_cons (jo_e (jd_fz (jw_comp (own := [("name", 3)]) rfl sc_are_names.nd (ji_seq (jd_var (pv 1))) (blkOk_by (own := [("name", 3)]) (by kernel_rfl)) (fun _ _ _ _ _ => jg_ct (pg_name sc_are_names.nd rfl (.inl rfl))) (fun _ _ _ _ _ => jts_nil) (fun _ _ _ _ _ => (jd_fz (jw_and (jw_isi (isi z) rfl (n_isinstance z) (jos_cons (jo_v (pv 3)) (jos_cons (jo_e (jd_ty rfl (n_str z) bt_str)) jos_nil))) (jw_one (jw_in (u1 hr) (jo_v (pv 3)) (jo_v (pv 0))))))) (by decide)))) jos_nil)))))

/-! is_name -/
theorem sc_is_name : FnScope ["value"] ["value"] d_is_name.scope := ⟨rfl, rfl, rfl, by decide +kernel, rfl, by decide +kernel, by decide +kernel⟩
theorem bn_is_name : BindN d_is_name ["value"] := ⟨rfl, fun _ _ _ _ _ _ us hl => match us, hl with | [_], _ => rfl⟩
theorem ok_is_name {P : Program} {w : World} {K : PySem.W.Frag} {mg : Str → Option Value} {base : Heap} (z : HD K mg) : FOk P w K mg base d_is_name 2 ["value"] 1 f_is_name :=
  FOk.mk' (N := ["value"]) (b := b_is_name) (by obtain ⟨h, X, G, c⟩ := z; exact c.says.def_ 25 (d := d_is_name) rfl) sc_is_name rfl fun f cdv A outer s H E hr tk hp => (jss_one (js_ret (jw_and (jw_c (cNe hr.units) (jo_v (pv 0)) (jo_e jd_str)) (jw_one (jw_f (ok_is_word_of z) (hr.mono (by decide)) tk rfl (m_is_word_of z) bn_is_word_of (jl_cons (jd_var (pv 0)) (jl_cons (jd_fz (jw_add (jo_e (jd_gstr rfl (m_LETTERS_shapes z))) (jo_e (jd_gstr rfl (m_DIGITS z))))) (jl_cons (jd_gint rfl (m_MOST_LETTERS z)) jl_nil))))))))

/-! is_system_machinetags -/
theorem sc_is_system_machinetags : FnScope ["value", "rules", "name", "row"] ["value"] d_is_system_machinetags.scope := ⟨rfl, rfl, rfl, by decide +kernel, rfl, by decide +kernel, by decide +kernel⟩
theorem bn_is_system_machinetags : BindN d_is_system_machinetags ["value"] := ⟨rfl, fun _ _ _ _ _ _ us hl => match us, hl with | [_], _ => rfl⟩
theorem ok_is_system_machinetags {P : Program} {w : World} {K : PySem.W.Frag} {mg : Str → Option Value} {base : Heap} (z : HD K mg) : FOk P w K mg base d_is_system_machinetags 3 ["value"] 1 f_is_system_machinetags :=
  FOk.mk' (N := ["value", "rules", "name", "row"]) (b := b_is_system_machinetags) (by obtain ⟨h, X, G, c⟩ := z; exact c.says.def_ 26 (d := d_is_system_machinetags) rfl) sc_is_system_machinetags rfl fun f cdv A outer s H E hr tk hp => (jss_cons (js_if (jt_w (jtw_or (jt_not (jt_val (jw_f (ok_is_tuple_of z) (hr.mono (by decide)) tk rfl (m_is_tuple_of z) bn_is_tuple_of (jl_cons (jd_var (pv 0)) (jl_cons jd_int jl_nil))))) (jtw_or (jt_not (jt_val (jw_f (ok_is_between z) (hr.mono (by decide)) tk rfl (m_is_between z) bn_is_between (jl_cons (jd_fz (jw_ix (u1 hr) (jo_v (pv 0)) (jo_e jd_int))) (jl_cons jd_int (jl_cons (jd_gint rfl (m_MOST_TAKE_machinetags z)) jl_nil)))))) (jtw_or1 (jt_not (jt_val (jw_isi (isi z) rfl (n_isinstance z) (jos_cons (jo_e (jd_fz (jw_ix (u1 hr) (jo_v (pv 0)) (jo_e jd_int)))) (jos_cons (jo_e (jd_ty rfl (n_dict z) bt_dict)) jos_nil)))))))))
    (jss_one (js_ret (jw_d jd_bl)))
    jss_nil)
    (jss_cons (js_set (i := 1) sc_is_system_machinetags.nd rfl (.inr rfl) (jw_ix (u1 hr) (jo_v (pv 0)) (jo_e jd_int)))
    (jss_cons (js_if (jt_w (jtw_or (jt_not (jt_chain cLe cLe (jo_e jd_int) (jo_e (jd_fz (jw_len rfl (n_len z) (jos_cons (jo_v (pv 1)) jos_nil)))) (jo_e (jd_gint rfl (m_MOST_NAMES z))))) (jtw_or1 (jt_not (jt_val (jw_all rfl rfl (n_all z) (jos_cons (jo_e (jd_fz (jw_compD (own := [("name", 2)]) rfl sc_is_system_machinetags.nd (jdi_keys (pv 1)) (blkOk_by (own := [("name", 2)]) (by kernel_rfl)) (fun _ _ _ _ _ => jg_ct (pg_name sc_is_system_machinetags.nd rfl (.inl rfl))) (fun _ _ _ _ _ => jts_nil) (fun _ _ _ _ _ => (jd_fz (jw_f (ok_is_name z) (hr.mono (by decide)) (takes0 _) rfl (m_is_name z) bn_is_name (jl_cons (jd_var (pv 2)) jl_nil)))) (by decide)))) jos_nil)))))))
    (jss_one (js_ret (jw_d jd_bl)))
    jss_nil)
    (jss_one (js_ret (jw_all rfl rfl (n_all z) (jos_cons (jo_e (jd_fz (jw_compD (own := [("row", 3)]) rfl sc_is_system_machinetags.nd (jdi_vals (pv 1)) (blkOk_by (own := [("row", 3)]) (by kernel_rfl)) (fun _ _ _ _ _ => jg_ct (pg_name sc_is_system_machinetags.nd rfl (.inl rfl))) (fun _ _ _ _ _ => jts_nil) (fun _ _ _ _ _ => (jd_fz (jw_f (ok_are_names z) (hr.mono (by decide)) (takes0 _) rfl (m_are_names z) bn_are_names (jl_cons (jd_var (pv 1)) (jl_cons (jd_var (pv 3)) (jl_cons (jd_gint rfl (m_MOST_RULE_machinetags z)) jl_nil)))))) (by decide)))) jos_nil)))))))

/-! great_run -/
theorem sc_great_run : FnScope ["system", "word", "steps", "take", "rules", "done"] ["system", "word", "steps"] d_great_run.scope := ⟨rfl, rfl, rfl, by decide +kernel, rfl, by decide +kernel, by decide +kernel⟩
theorem bn_great_run : BindN d_great_run ["system", "word", "steps"] := ⟨rfl, fun _ _ _ _ _ _ us hl => match us, hl with | [_, _, _], _ => rfl⟩
theorem bk_great_run_6 : BindK d_great_run ["system", "word", "steps"] ["steps", "word", "system"] 0 [2, 1, 0] := ⟨rfl, fun _ _ _ _ _ _ us ws h1 h2 => match us, ws, h1, h2 with | [], [_, _, _], _, _ => rfl⟩
theorem ok_great_run {P : Program} {w : World} {K : PySem.W.Frag} {mg : Str → Option Value} {base : Heap} (z : HD K mg) : FOk P w K mg base d_great_run 4 ["system", "word", "steps"] 3 f_great_run :=
  FOk.mk' (N := ["system", "word", "steps", "take", "rules", "done"]) (b := b_great_run) (by obtain ⟨h, X, G, c⟩ := z; exact c.says.def_ 27 (d := d_great_run) rfl) sc_great_run rfl fun f cdv A outer s H E hr tk hp => (jss_cons (js_if (jt_not (jt_val (jw_f (ok_is_system_machinetags z) (hr.mono (by decide)) tk rfl (m_is_system_machinetags z) bn_is_system_machinetags (jl_cons (jd_var (pv 0)) jl_nil))))
    (jss_one js_never)
    jss_nil)
    (jss_cons (js_unp (tg := .Name "" ⟨0, 0, 0, 0⟩) (ps_asg (jd_var (pv 0)) (jg_tup rfl (jgs_cons (jg_name (pg_name sc_great_run.nd rfl (.inl rfl))) (jgs_cons (jg_name (pg_name sc_great_run.nd rfl (.inl rfl))) jgs_nil)))))
    (jss_cons (js_if (jt_not (jt_val (jw_f (ok_are_names z) (hr.mono (by decide)) tk rfl (m_are_names z) bn_are_names (jl_cons (jd_var (pv 4)) (jl_cons (jd_var (pv 1)) (jl_cons (jd_gint rfl (m_MOST_WORD_machinetags z)) jl_nil))))))
    (jss_one js_never)
    jss_nil)
    (jss_cons (js_expr (jw_fD (ok_check_steps z) (hr.mono (by decide)) tk rfl (m_check_steps z) bd_check_steps_1 (fun _ _ => Reps.nil) (jl_cons (jd_var (pv 2)) (jl_cons (jd_gint rfl (m_MOST_STEPS_machinetags z)) jl_nil))))
    (jss_cons (js_set (i := 5) sc_great_run.nd rfl (.inl rfl) (jw_d jd_int))
    (jss_cons (js_while (n := 1000000) hp (jt_w (jtw_and (jt_c cLt (jo_v (pv 5)) (jo_v (pv 2))) (jtw_and1 (jt_c cGe (jo_e (jd_fz (jw_len rfl (n_len z) (jos_cons (jo_v (pv 1)) jos_nil)))) (jo_v (pv 3))))))
    (jss_cons (js_set (i := 1) sc_great_run.nd rfl (.inl rfl) (jw_add (jo_e (jd_fz (jw_sl (jo_v (pv 1)) (jp_e (jd_var (pv 3))) jp_none))) (jo_e (jd_fz (jw_ix (u1 hr) (jo_v (pv 4)) (jo_e (jd_fz (jw_ix (u1 hr) (jo_v (pv 1)) (jo_e jd_int)))))))))
    (jss_one (js_augAdd (i := 5) sc_great_run.nd rfl (.inl rfl) jd_int))))
    (jss_one (js_ret (jw_tup (jl_cons (jd_var (pv 1)) (jl_cons (jd_var (pv 5)) jl_nil)))))))))))

/-! check_run -/
theorem sc_check_run : FnScope ["tags", "word", "steps"] ["tags", "word", "steps"] d_check_run.scope := ⟨rfl, rfl, rfl, by decide +kernel, rfl, by decide +kernel, by decide +kernel⟩
theorem bn_check_run : BindN d_check_run ["tags", "word", "steps"] := ⟨rfl, fun _ _ _ _ _ _ us hl => match us, hl with | [_, _, _], _ => rfl⟩
theorem ok_check_run {P : Program} {w : World} {K : PySem.W.Frag} {mg : Str → Option Value} {base : Heap} (z : HD K mg) : FOk P w K mg base d_check_run 4 ["tags", "word", "steps"] 3 f_check_run :=
  FOk.mk' (N := ["tags", "word", "steps"]) (b := b_check_run) (by obtain ⟨h, X, G, c⟩ := z; exact c.says.def_ 28 (d := d_check_run) rfl) sc_check_run rfl fun f cdv A outer s H E hr tk hp => (jss_cons (js_expr (jw_f (ok_check_word z) (hr.mono (by decide)) tk rfl (m_check_word z) bn_check_word (jl_cons (jd_var (pv 0)) (jl_cons (jd_var (pv 1)) jl_nil))))
    (jss_one (js_expr (jw_fD (ok_check_steps z) (hr.mono (by decide)) tk rfl (m_check_steps z) bd_check_steps_1 (fun _ _ => Reps.nil) (jl_cons (jd_var (pv 2)) (jl_cons (jd_gint rfl (m_MOST_STEPS_tags z)) jl_nil))))))

/-! ran -/
theorem sc_ran : FnScope ["tags", "word", "steps", "known", "number", "after"] ["tags", "word", "steps"] d_ran.scope := ⟨rfl, rfl, rfl, by decide +kernel, rfl, by decide +kernel, by decide +kernel⟩
theorem bn_ran : BindN d_ran ["tags", "word", "steps"] := ⟨rfl, fun _ _ _ _ _ _ us hl => match us, hl with | [_, _, _], _ => rfl⟩
theorem ok_ran {P : Program} {w : World} {K : PySem.W.Frag} {mg : Str → Option Value} {base : Heap} (z : HD K mg) : FOk P w K mg base d_ran 2 ["tags", "word", "steps"] 3 f_ran :=
  FOk.mk' (N := ["tags", "word", "steps", "known", "number", "after"]) (b := b_ran) (by obtain ⟨h, X, G, c⟩ := z; exact c.says.def_ 29 (d := d_ran) rfl) sc_ran rfl fun f cdv A outer s H E hr tk hp => (jss_cons (js_set (i := 3) sc_ran.nd rfl (.inl rfl) (jw_disp (l := [((cVar 1), (cC (.int 0)))]) (pps_cons (jd_var (pv 1)) jd_int pps_nil) rfl rfl (by intro h; cases h) (by decide)))
    (jss_cons (js_for hp rfl (ji_rng1 rfl (n_range z) (jl_cons (jd_fz (jw_add (jo_v (pv 2)) (jo_e jd_int))) jl_nil)) (jg_name (pg_name sc_ran.nd rfl (.inl rfl)))
    (jss_cons (js_set (i := 5) sc_ran.nd rfl (.inl rfl) (jw_f (ok_stepped z) (hr.mono (by decide)) tk rfl (m_stepped z) bn_stepped (jl_cons (jd_var (pv 0)) (jl_cons (jd_var (pv 1)) jl_nil))))
    (jss_cons (js_if (jt_c cIs (jo_v (pv 5)) (jo_e jd_non))
    (jss_one (js_ret (jw_tup (jl_cons jd_str (jl_cons (jd_var (pv 4)) (jl_cons (jd_var (pv 1)) (jl_cons jd_non jl_nil)))))))
    jss_nil)
    (jss_cons (js_if (jt_c (cEq hr.units) (jo_v (pv 4)) (jo_v (pv 2)))
    (jss_one js_break)
    jss_nil)
    (jss_cons (js_if (jt_in (u1 hr) (jo_v (pv 5)) (jo_v (pv 3)))
    (jss_one (js_ret (jw_tup (jl_cons jd_str (jl_cons (jd_fz (jw_add (jo_v (pv 4)) (jo_e jd_int))) (jl_cons (jd_var (pv 5)) (jl_cons (jd_fz (jw_ix (u1 hr) (jo_v (pv 3)) (jo_v (pv 5)))) jl_nil)))))))
    jss_nil)
    (jss_cons (js_put (ps_asg (jd_fz (jw_add (jo_v (pv 4)) (jo_e jd_int))) (pg_sub (jo_v (pv 3)) (jd_var (pv 5)) (set_any (u1 hr)))))
    (jss_one (js_set (i := 1) sc_ran.nd rfl (.inl rfl) (jw_d (jd_var (pv 5)))))))))))
    (jss_one (js_ret (jw_tup (jl_cons jd_str (jl_cons (jd_var (pv 2)) (jl_cons (jd_var (pv 1)) (jl_cons jd_non jl_nil)))))))))

/-! tag_run -/
theorem sc_tag_run : FnScope ["tags", "word", "steps", "how", "number", "last", "_"] ["tags", "word", "steps"] d_tag_run.scope := ⟨rfl, rfl, rfl, by decide +kernel, rfl, by decide +kernel, by decide +kernel⟩
theorem bn_tag_run : BindN d_tag_run ["tags", "word", "steps"] := ⟨rfl, fun _ _ _ _ _ _ us hl => match us, hl with | [_, _, _], _ => rfl⟩
theorem bk_tag_run_3 : BindK d_tag_run ["tags", "word", "steps"] ["steps", "word", "tags"] 0 [2, 1, 0] := ⟨rfl, fun _ _ _ _ _ _ us ws h1 h2 => match us, ws, h1, h2 with | [], [_, _, _], _, _ => rfl⟩
theorem ok_tag_run {P : Program} {w : World} {K : PySem.W.Frag} {mg : Str → Option Value} {base : Heap} (z : HD K mg) : FOk P w K mg base d_tag_run 5 ["tags", "word", "steps"] 3 f_tag_run :=
  FOk.mk' (N := ["tags", "word", "steps", "how", "number", "last", "_"]) (b := b_tag_run) (by obtain ⟨h, X, G, c⟩ := z; exact c.says.def_ 30 (d := d_tag_run) rfl) sc_tag_run rfl fun f cdv A outer s H E hr tk hp => (jss_cons (js_expr (jw_f (ok_check_run z) (hr.mono (by decide)) tk rfl (m_check_run z) bn_check_run (jl_cons (jd_var (pv 0)) (jl_cons (jd_var (pv 1)) (jl_cons (jd_var (pv 2)) jl_nil)))))
    (jss_cons (js_unp (tg := .Name "" ⟨0, 0, 0, 0⟩) (ps_asg (jd_fz (jw_f (ok_ran z) (hr.mono (by decide)) tk rfl (m_ran z) bn_ran (jl_cons (jd_var (pv 0)) (jl_cons (jd_var (pv 1)) (jl_cons (jd_var (pv 2)) jl_nil))))) (jg_tup rfl (jgs_cons (jg_name (pg_name sc_tag_run.nd rfl (.inl rfl))) (jgs_cons (jg_name (pg_name sc_tag_run.nd rfl (.inl rfl))) (jgs_cons (jg_name (pg_name sc_tag_run.nd rfl (.inl rfl))) (jgs_cons (jg_name (pg_name sc_tag_run.nd rfl (.inl rfl))) jgs_nil)))))))
    (jss_one (js_ret (jw_tup (jl_cons (jd_var (pv 3)) (jl_cons (jd_var (pv 4)) (jl_cons (jd_var (pv 5)) jl_nil))))))))

/-! tag_fate -/
theorem sc_tag_fate : FnScope ["tags", "word", "steps", "how", "number", "_", "first"] ["tags", "word", "steps"] d_tag_fate.scope := ⟨rfl, rfl, rfl, by decide +kernel, rfl, by decide +kernel, by decide +kernel⟩
theorem bn_tag_fate : BindN d_tag_fate ["tags", "word", "steps"] := ⟨rfl, fun _ _ _ _ _ _ us hl => match us, hl with | [_, _, _], _ => rfl⟩
theorem bk_tag_fate_4 : BindK d_tag_fate ["tags", "word", "steps"] ["steps", "word", "tags"] 0 [2, 1, 0] := ⟨rfl, fun _ _ _ _ _ _ us ws h1 h2 => match us, ws, h1, h2 with | [], [_, _, _], _, _ => rfl⟩
theorem ok_tag_fate {P : Program} {w : World} {K : PySem.W.Frag} {mg : Str → Option Value} {base : Heap} (z : HD K mg) : FOk P w K mg base d_tag_fate 5 ["tags", "word", "steps"] 3 f_tag_fate :=
  FOk.mk' (N := ["tags", "word", "steps", "how", "number", "_", "first"]) (b := b_tag_fate) (by obtain ⟨h, X, G, c⟩ := z; exact c.says.def_ 31 (d := d_tag_fate) rfl) sc_tag_fate rfl fun f cdv A outer s H E hr tk hp => (jss_cons (js_expr (jw_f (ok_check_run z) (hr.mono (by decide)) tk rfl (m_check_run z) bn_check_run (jl_cons (jd_var (pv 0)) (jl_cons (jd_var (pv 1)) (jl_cons (jd_var (pv 2)) jl_nil)))))
    (jss_cons (js_unp (tg := .Name "" ⟨0, 0, 0, 0⟩) (ps_asg (jd_fz (jw_f (ok_ran z) (hr.mono (by decide)) tk rfl (m_ran z) bn_ran (jl_cons (jd_var (pv 0)) (jl_cons (jd_var (pv 1)) (jl_cons (jd_var (pv 2)) jl_nil))))) (jg_tup rfl (jgs_cons (jg_name (pg_name sc_tag_fate.nd rfl (.inl rfl))) (jgs_cons (jg_name (pg_name sc_tag_fate.nd rfl (.inl rfl))) (jgs_cons (jg_name (pg_name sc_tag_fate.nd rfl (.inl rfl))) (jgs_cons (jg_name (pg_name sc_tag_fate.nd rfl (.inl rfl))) jgs_nil)))))))
    (jss_cons (js_if (jt_c (cEq hr.units) (jo_v (pv 3)) (jo_e jd_str))
    (jss_one (js_ret (jw_tup (jl_cons jd_str (jl_cons (jd_var (pv 4)) jl_nil)))))
    jss_nil)
    (jss_one (js_ret (jw_if (jt_c (cEq hr.units) (jo_v (pv 3)) (jo_e jd_str)) (jw_tup (jl_cons jd_str (jl_cons (jd_var (pv 6)) (jl_cons (jd_var (pv 4)) jl_nil)))) (jw_tup (jl_cons jd_str jl_nil))))))))

/-! _law_tags_right -/
theorem sc__law_tags_right : FnScope ["box", "take", "rules", "word", "by_name", "tags", "steps", "way", "how", "done", "told", "fate", "k", "system", "stop", "great"] ["box", "take", "rules", "word", "by_name"] d__law_tags_right.scope := ⟨rfl, rfl, rfl, by decide +kernel, rfl, by decide +kernel, by decide +kernel⟩
theorem bn__law_tags_right : BindN d__law_tags_right ["box", "take", "rules", "word", "by_name"] := ⟨rfl, fun _ _ _ _ _ _ us hl => match us, hl with | [_, _, _, _, _], _ => rfl⟩
theorem ok__law_tags_right {P : Program} {w : World} {K : PySem.W.Frag} {mg : Str → Option Value} {base : Heap} (z : HD K mg) : FOk P w K mg base d__law_tags_right 8 ["box", "take", "rules", "word", "by_name"] 5 f__law_tags_right :=
  FOk.mk' (N := ["box", "take", "rules", "word", "by_name", "tags", "steps", "way", "how", "done", "told", "fate", "k", "system", "stop", "great"]) (b := b__law_tags_right) (by obtain ⟨h, X, G, c⟩ := z; exact c.says.def_ 32 (d := d__law_tags_right) rfl) sc__law_tags_right rfl fun f cdv A outer s H E hr tk hp => (jss_cons (js_set (i := 5) sc__law_tags_right.nd rfl (.inl rfl) (jw_if (jt_val (jw_d (jd_var (pv 4)))) (jw_newK0 (d := d_Tags_init) (E := E) (ks := ["rules", "take"]) (pe := [1, 0]) (mk_Tags z) (ok_Tags_init z) (hr.mono (by decide)) tk rfl (m_Tags z) bk_Tags_init_2 (jk_cons (jd_var (pv 2)) (jk_cons (jd_var (pv 1)) jk_nil)) (fun _ _ _ h => len_cons (fun _ _ _ h => len_cons (fun _ _ _ h => len_nil h) h) h)) (jw_new (d := d_Tags_init) (E := E) (mk_Tags z) (ok_Tags_init z) (hr.mono (by decide)) tk rfl (m_Tags z) bn_Tags_init (jl_cons (jd_var (pv 1)) (jl_cons (jd_var (pv 2)) jl_nil)))))
    (jss_cons (js_set (i := 6) sc__law_tags_right.nd rfl (.inl rfl) (jw_ix (u1 hr) (jo_e (jd_fz (jw_lst (jl_cons jd_int (jl_cons jd_int (jl_cons jd_int (jl_cons jd_int (jl_cons jd_int jl_nil)))))))) (jo_e (jd_fz (jw_f (ok__law_take z) (hr.mono (by decide)) tk rfl (m__law_take z) bn__law_take (jl_cons (jd_ref (pv 0)) (jl_cons jd_int jl_nil)))))))
    (jss_cons (js_unp (tg := .Name "" ⟨0, 0, 0, 0⟩) (ps_asg (jd_fz (jw_f (ok__law_way z) (hr.mono (by decide)) tk rfl (m__law_way z) bn__law_way (jl_cons (jd_var (pv 1)) (jl_cons (jd_var (pv 2)) (jl_cons (jd_var (pv 3)) (jl_cons (jd_var (pv 6)) jl_nil)))))) (jg_tup rfl (jgs_cons (jg_name (pg_name sc__law_tags_right.nd rfl (.inl rfl))) (jgs_cons (jg_name (pg_name sc__law_tags_right.nd rfl (.inl rfl))) jgs_nil)))))
    (jss_cons (js_set (i := 9) sc__law_tags_right.nd rfl (.inl rfl) (jw_sub (jo_e (jd_fz (jw_len rfl (n_len z) (jos_cons (jo_v (pv 7)) jos_nil)))) (jo_e jd_int)))
    (jss_cons (js_set (i := 10) sc__law_tags_right.nd rfl (.inl rfl) (jw_if (jt_val (jw_d (jd_var (pv 4)))) (jw_lst (jl_cons (jd_fz (jw_fK0 (ks := ["steps", "word", "tags"]) (pe := [2, 1, 0]) (ok_tag_run z) (hr.mono (by decide)) tk rfl (m_tag_run z) bk_tag_run_3 (jk_cons (jd_var (pv 6)) (jk_cons (jd_var (pv 3)) (jk_cons (jd_var (pv 5)) jk_nil))) (fun _ _ _ h => len_cons (fun _ _ _ h => len_cons (fun _ _ _ h => len_cons (fun _ _ _ h => len_nil h) h) h) h))) (jl_cons (jd_fz (jw_f (ok_tag_fate z) (hr.mono (by decide)) tk rfl (m_tag_fate z) bn_tag_fate (jl_cons (jd_var (pv 5)) (jl_cons (jd_var (pv 3)) (jl_cons (jd_var (pv 6)) jl_nil))))) jl_nil))) (jw_lst (jl_cons (jd_fz (jw_f (ok_tag_run z) (hr.mono (by decide)) tk rfl (m_tag_run z) bn_tag_run (jl_cons (jd_var (pv 5)) (jl_cons (jd_var (pv 3)) (jl_cons (jd_var (pv 6)) jl_nil))))) (jl_cons (jd_fz (jw_fK0 (ks := ["steps", "word", "tags"]) (pe := [2, 1, 0]) (ok_tag_fate z) (hr.mono (by decide)) tk rfl (m_tag_fate z) bk_tag_fate_4 (jk_cons (jd_var (pv 6)) (jk_cons (jd_var (pv 3)) (jk_cons (jd_var (pv 5)) jk_nil))) (fun _ _ _ h => len_cons (fun _ _ _ h => len_cons (fun _ _ _ h => len_cons (fun _ _ _ h => len_nil h) h) h) h))) jl_nil)))))
    (jss_cons (js_set (i := 11) sc__law_tags_right.nd rfl (.inl rfl) (jw_if (jt_c (cEq hr.units) (jo_v (pv 8)) (jo_e jd_str)) (jw_tup (jl_cons jd_str (jl_cons (jd_var (pv 9)) jl_nil))) (jw_if (jt_c (cEq hr.units) (jo_v (pv 8)) (jo_e jd_str)) (jw_tup (jl_cons jd_str (jl_cons (jd_fz (jw_lindex (jo_v (pv 7)) (jos_cons (jo_e (jd_fz (jw_ix (u1 hr) (jo_v (pv 7)) (jo_e (jd_fz (jw_neg (jo_e jd_int))))))) jos_nil))) (jl_cons (jd_var (pv 9)) jl_nil)))) (jw_tup (jl_cons jd_str jl_nil)))))
    (jss_cons (js_if (jt_not (jt_val (jw_f (ok__law_same z 6) (hr.mono (by decide)) tk rfl (m__law_same z) bn__law_same (jl_cons (jd_var (pv 10)) (jl_cons (jd_fz (jw_lst (jl_cons (jd_fz (jw_tup (jl_cons (jd_var (pv 8)) (jl_cons (jd_fz (jw_if (jt_c (cNe hr.units) (jo_v (pv 8)) (jo_e jd_str)) (jw_d (jd_var (pv 9))) (jw_d (jd_var (pv 6))))) (jl_cons (jd_fz (jw_ix (u1 hr) (jo_v (pv 7)) (jo_e (jd_fz (jw_neg (jo_e jd_int)))))) jl_nil))))) (jl_cons (jd_var (pv 11)) jl_nil)))) jl_nil)))))
    (jss_one (js_ret (jw_d jd_bl)))
    jss_nil)
    (jss_cons (js_for hp rfl (ji_rng1 rfl (n_range z) (jl_cons (jd_fz (jw_min rfl rfl (n_min z) (jos_cons (jo_v (pv 9)) (jos_cons (jo_e jd_int) jos_nil)))) jl_nil)) (jg_name (pg_name sc__law_tags_right.nd rfl (.inl rfl)))
    (jss_one (js_if (jt_not (jt_val (jw_f (ok__law_same z 6) (hr.mono (by decide)) tk rfl (m__law_same z) bn__law_same (jl_cons (jd_fz (jw_if (jt_val (jw_d (jd_var (pv 4)))) (jw_fK0 (ks := ["word", "tags"]) (pe := [1, 0]) (ok_next_tag z) (hr.mono (by decide)) tk rfl (m_next_tag z) bk_next_tag_5 (jk_cons (jd_fz (jw_ix (u1 hr) (jo_v (pv 7)) (jo_v (pv 12)))) (jk_cons (jd_var (pv 5)) jk_nil)) (fun _ _ _ h => len_cons (fun _ _ _ h => len_cons (fun _ _ _ h => len_nil h) h) h)) (jw_f (ok_next_tag z) (hr.mono (by decide)) tk rfl (m_next_tag z) bn_next_tag (jl_cons (jd_var (pv 5)) (jl_cons (jd_fz (jw_ix (u1 hr) (jo_v (pv 7)) (jo_v (pv 12)))) jl_nil))))) (jl_cons (jd_fz (jw_ix (u1 hr) (jo_v (pv 7)) (jo_e (jd_fz (jw_add (jo_v (pv 12)) (jo_e jd_int)))))) jl_nil)))))
    (jss_one (js_ret (jw_d jd_bl)))
    jss_nil)))
    (jss_cons (js_if (jt_w (jtw_and (jt_c (cEq hr.units) (jo_v (pv 8)) (jo_e jd_str)) (jtw_and1 (jt_c cIsNot (jo_e (jd_fz (jw_f (ok_next_tag z) (hr.mono (by decide)) tk rfl (m_next_tag z) bn_next_tag (jl_cons (jd_var (pv 5)) (jl_cons (jd_fz (jw_ix (u1 hr) (jo_v (pv 7)) (jo_e (jd_fz (jw_neg (jo_e jd_int)))))) jl_nil))))) (jo_e jd_non)))))
    (jss_one (js_ret (jw_d jd_bl)))
    jss_nil)
    (jss_cons (js_set (i := 13) sc__law_tags_right.nd rfl (.inl rfl) (jw_tup (jl_cons (jd_var (pv 1)) (jl_cons (jd_fz (jw_dict rfl rfl (n_dict z) (jos_cons (jo_e (jd_fz (jw_comp (own := [("k", 12)]) rfl sc__law_tags_right.nd (ji_rng1 rfl (n_range z) (jl_cons (jd_fz (jw_len rfl (n_len z) (jos_cons (jo_v (pv 2)) jos_nil))) jl_nil)) (blkOk_by (own := [("k", 12)]) (by kernel_rfl)) (fun _ _ _ _ _ => jg_ct (pg_name sc__law_tags_right.nd rfl (.inl rfl))) (fun _ _ _ _ _ => jts_nil) (fun _ _ _ _ _ => (jd_fz (jw_tup (jl_cons (jd_fz (jw_ix (u1 hr) (jo_e jd_str) (jo_v (pv 12)))) (jl_cons (jd_fz (jw_tuple rfl rfl (n_tuple z) (jos_cons (jo_e (jd_fz (jw_ix (u1 hr) (jo_v (pv 2)) (jo_v (pv 12))))) jos_nil))) jl_nil))))) (by decide)))) jos_nil))) jl_nil))))
    (jss_cons (js_set (i := 14) sc__law_tags_right.nd rfl (.inl rfl) (jw_if (jt_c (cNe hr.units) (jo_v (pv 8)) (jo_e jd_str)) (jw_d (jd_var (pv 9))) (jw_d (jd_var (pv 6)))))
    (jss_cons (js_set (i := 15) sc__law_tags_right.nd rfl (.inl rfl) (jw_fK0 (ks := ["steps", "word", "system"]) (pe := [2, 1, 0]) (ok_great_run z) (hr.mono (by decide)) tk rfl (m_great_run z) bk_great_run_6 (jk_cons (jd_fz (jw_if (jt_c (cEq hr.units) (jo_v (pv 8)) (jo_e jd_str)) (jw_add (jo_v (pv 14)) (jo_e jd_int)) (jw_d (jd_var (pv 14))))) (jk_cons (jd_fz (jw_tuple rfl rfl (n_tuple z) (jos_cons (jo_v (pv 3)) jos_nil))) (jk_cons (jd_var (pv 13)) jk_nil))) (fun _ _ _ h => len_cons (fun _ _ _ h => len_cons (fun _ _ _ h => len_cons (fun _ _ _ h => len_nil h) h) h) h)))
    (jss_one (js_ret (jw_f (ok__law_same z 6) (hr.mono (by decide)) tk rfl (m__law_same z) bn__law_same (jl_cons (jd_var (pv 15)) (jl_cons (jd_fz (jw_tup (jl_cons (jd_fz (jw_tuple rfl rfl (n_tuple z) (jos_cons (jo_e (jd_fz (jw_ix (u1 hr) (jo_v (pv 7)) (jo_e (jd_fz (jw_neg (jo_e jd_int))))))) jos_nil))) (jl_cons (jd_var (pv 14)) jl_nil)))) jl_nil)))))))))))))))))

/-! check_tags -/
theorem sc_check_tags : FnScope ["tags"] ["tags"] d_check_tags.scope := ⟨rfl, rfl, rfl, by decide +kernel, rfl, by decide +kernel, by decide +kernel⟩
theorem bn_check_tags : BindN d_check_tags ["tags"] := ⟨rfl, fun _ _ _ _ _ _ us hl => match us, hl with | [_], _ => rfl⟩
theorem ok_check_tags {P : Program} {w : World} {K : PySem.W.Frag} {mg : Str → Option Value} {base : Heap} (z : HD K mg) : FOk P w K mg base d_check_tags 1 ["tags"] 1 f_check_tags :=
  FOk.mk' (N := ["tags"]) (b := b_check_tags) (by obtain ⟨h, X, G, c⟩ := z; exact c.says.def_ 33 (d := d_check_tags) rfl) sc_check_tags rfl fun f cdv A outer s H E hr tk hp => (jss_one (js_if (jt_c (cNe hr.units) (jo_e (jd_fz (jw_fld (fo_take z) (jo_v (pv 0))))) (jo_e jd_int))
    (jss_one js_never)
    jss_nil))

/-! signs_of -/
theorem sc_signs_of : FnScope ["many", "word", "found", "letter", "place"] ["many", "word"] d_signs_of.scope := ⟨rfl, rfl, rfl, by decide +kernel, rfl, by decide +kernel, by decide +kernel⟩
theorem bn_signs_of : BindN d_signs_of ["many", "word"] := ⟨rfl, fun _ _ _ _ _ _ us hl => match us, hl with | [_, _], _ => rfl⟩
theorem ok_signs_of {P : Program} {w : World} {K : PySem.W.Frag} {mg : Str → Option Value} {base : Heap} (z : HD K mg) : FOk P w K mg base d_signs_of 1 ["many", "word"] 2 f_signs_of :=
  FOk.mk' (N := ["many", "word", "found", "letter", "place"]) (b := b_signs_of) (by obtain ⟨h, X, G, c⟩ := z; exact c.says.def_ 34 (d := d_signs_of) rfl) sc_signs_of rfl fun f cdv A outer s H E hr tk hp => (jss_cons (js_set (i := 2) sc_signs_of.nd rfl (.inl rfl) (jw_d jd_str))
    (jss_cons (js_for hp rfl (ji_seq (jd_var (pv 1))) (jg_name (pg_name sc_signs_of.nd rfl (.inl rfl)))
    (jss_cons (js_set (i := 4) sc_signs_of.nd rfl (.inl rfl) (jw_sindex (jo_e (jd_gstr rfl (m_LETTERS_tags z))) (jos_cons (jo_v (pv 3)) jos_nil)))
    (jss_one (js_set (i := 2) sc_signs_of.nd rfl (.inl rfl) (jw_add (jo_e (jd_fz (jw_add (jo_e (jd_fz (jw_add (jo_v (pv 2)) (jo_e (jd_fz (jw_mul (jo_e jd_str) (jo_v (pv 4)))))))) (jo_e jd_str)))) (jo_e (jd_fz (jw_mul (jo_e jd_str) (jo_e (jd_fz (jw_sub (jo_e (jd_fz (jw_sub (jo_v (pv 0)) (jo_e jd_int)))) (jo_v (pv 4)))))))))))))
    (jss_one (js_retV (pv 2)))))

/-! to_cyclic -/
theorem sc_to_cyclic : FnScope ["tags", "many", "word"] ["tags"] d_to_cyclic.scope := ⟨rfl, rfl, rfl, by decide +kernel, rfl, by decide +kernel, by decide +kernel⟩
theorem bn_to_cyclic : BindN d_to_cyclic ["tags"] := ⟨rfl, fun _ _ _ _ _ _ us hl => match us, hl with | [_], _ => rfl⟩
theorem bk_to_cyclic_7 : BindK d_to_cyclic ["tags"] ["tags"] 0 [0] := ⟨rfl, fun _ _ _ _ _ _ us ws h1 h2 => match us, ws, h1, h2 with | [], [_], _, _ => rfl⟩
theorem ok_to_cyclic {P : Program} {w : World} {K : PySem.W.Frag} {mg : Str → Option Value} {base : Heap} (z : HD K mg) : FOk P w K mg base d_to_cyclic 2 ["tags"] 1 f_to_cyclic :=
  FOk.mk' (N := ["tags", "many", "word"]) (b := b_to_cyclic) (by obtain ⟨h, X, G, c⟩ := z; exact c.says.def_ 35 (d := d_to_cyclic) rfl) sc_to_cyclic rfl fun f cdv A outer s H E hr tk hp => (jss_cons (js_expr (jw_f (ok_check_tags z) (hr.mono (by decide)) tk rfl (m_check_tags z) bn_check_tags (jl_cons (jd_var (pv 0)) jl_nil)))
    (jss_cons (js_set (i := 1) sc_to_cyclic.nd rfl (.inr rfl) (jw_len rfl (n_len z) (jos_cons (jo_e (jd_fz (jw_fld (fo_rules z) (jo_v (pv 0))))) jos_nil)))
    (jss_one (js_ret (jw_add (jo_e (jd_fz (jw_tuple rfl rfl (n_tuple z) (jos_cons (jo_e (jd_fz (jw_comp (own := [("word", 2)]) rfl sc_to_cyclic.nd (ji_seq (jd_fz (jw_fld (fo_rules z) (jo_v (pv 0))))) (blkOk_by (own := [("word", 2)]) (by kernel_rfl)) (fun _ _ _ _ _ => jg_ct (pg_name sc_to_cyclic.nd rfl (.inl rfl))) (fun _ _ _ _ _ => jts_nil) (fun _ _ _ _ _ => (jd_fz (jw_f (ok_signs_of z) (hr.mono (by decide)) (takes0 _) rfl (m_signs_of z) bn_signs_of (jl_cons (jd_var (pv 1)) (jl_cons (jd_var (pv 2)) jl_nil))))) (by decide)))) jos_nil)))) (jo_e (jd_fz (jw_mul (jo_e (jd_fz (jw_tup (jl_cons jd_str jl_nil)))) (jo_v (pv 1))))))))))

/-! cyclic_word -/
theorem sc_cyclic_word : FnScope ["tags", "word"] ["tags", "word"] d_cyclic_word.scope := ⟨rfl, rfl, rfl, by decide +kernel, rfl, by decide +kernel, by decide +kernel⟩
theorem bn_cyclic_word : BindN d_cyclic_word ["tags", "word"] := ⟨rfl, fun _ _ _ _ _ _ us hl => match us, hl with | [_, _], _ => rfl⟩
theorem bk_cyclic_word_8 : BindK d_cyclic_word ["tags", "word"] ["word", "tags"] 0 [1, 0] := ⟨rfl, fun _ _ _ _ _ _ us ws h1 h2 => match us, ws, h1, h2 with | [], [_, _], _, _ => rfl⟩
theorem ok_cyclic_word {P : Program} {w : World} {K : PySem.W.Frag} {mg : Str → Option Value} {base : Heap} (z : HD K mg) : FOk P w K mg base d_cyclic_word 3 ["tags", "word"] 2 f_cyclic_word :=
  FOk.mk' (N := ["tags", "word"]) (b := b_cyclic_word) (by obtain ⟨h, X, G, c⟩ := z; exact c.says.def_ 36 (d := d_cyclic_word) rfl) sc_cyclic_word rfl fun f cdv A outer s H E hr tk hp => (jss_cons (js_expr (jw_f (ok_check_tags z) (hr.mono (by decide)) tk rfl (m_check_tags z) bn_check_tags (jl_cons (jd_var (pv 0)) jl_nil)))
    (jss_cons (js_expr (jw_f (ok_check_word z) (hr.mono (by decide)) tk rfl (m_check_word z) bn_check_word (jl_cons (jd_var (pv 0)) (jl_cons (jd_var (pv 1)) jl_nil))))
    (jss_one (js_ret (jw_f (ok_signs_of z) (hr.mono (by decide)) tk rfl (m_signs_of z) bn_signs_of (jl_cons (jd_fz (jw_len rfl (n_len z) (jos_cons (jo_e (jd_fz (jw_fld (fo_rules z) (jo_v (pv 0))))) jos_nil))) (jl_cons (jd_var (pv 1)) jl_nil)))))))

/-! _law_signs -/
theorem sc__law_signs : FnScope ["many", "word", "k", "letter"] ["many", "word"] d__law_signs.scope := ⟨rfl, rfl, rfl, by decide +kernel, rfl, by decide +kernel, by decide +kernel⟩
theorem bn__law_signs : BindN d__law_signs ["many", "word"] := ⟨rfl, fun _ _ _ _ _ _ us hl => match us, hl with | [_, _], _ => rfl⟩
theorem ok__law_signs {P : Program} {w : World} {K : PySem.W.Frag} {mg : Str → Option Value} {base : Heap} (z : HD K mg) : FOk P w K mg base d__law_signs 1 ["many", "word"] 2 f__law_signs :=
  FOk.mk' (N := ["many", "word", "k", "letter"]) (b := b__law_signs) (by obtain ⟨h, X, G, c⟩ := z; exact c.says.def_ 37 (d := d__law_signs) rfl) sc__law_signs rfl fun f cdv A outer s H E hr tk hp => (jss_one (js_ret (jw_join (jo_e jd_str) (jos_cons (jo_e (jd_fz (jw_comp (own := [("letter", 3)]) rfl sc__law_signs.nd (ji_seq (jd_var (pv 1))) (blkOk_by (own := [("letter", 3)]) (by kernel_rfl)) (fun _ _ _ _ _ => jg_ct (pg_name sc__law_signs.nd rfl (.inr rfl))) (fun _ _ _ _ _ => jts_nil) (fun _ _ _ _ _ => (jd_fz (jw_join (jo_e jd_str) (jos_cons (jo_e (jd_fz (jw_comp (own := [("k", 2)]) rfl sc__law_signs.nd (ji_rng1 rfl (n_range z) (jl_cons (jd_var (pv 0)) jl_nil)) (blkOk_by (own := [("k", 2)]) (by kernel_rfl)) (fun _ _ _ _ _ => jg_ct (pg_name sc__law_signs.nd rfl (.inl rfl))) (fun _ _ _ _ _ => jts_nil) (fun _ _ _ _ _ => (jd_fz (jw_if (jt_c (cEq hr.units) (jo_e (jd_fz (jw_ix (u1 hr) (jo_e jd_str) (jo_v (pv 2))))) (jo_v (pv 3))) (jw_d jd_str) (jw_d jd_str)))) (by decide)))) jos_nil)))) (by decide)))) jos_nil))))

/-! from_cyclic_word -/
theorem sc_from_cyclic_word : FnScope ["tags", "word", "many", "found", "start", "part"] ["tags", "word"] d_from_cyclic_word.scope := ⟨rfl, rfl, rfl, by decide +kernel, rfl, by decide +kernel, by decide +kernel⟩
theorem bn_from_cyclic_word : BindN d_from_cyclic_word ["tags", "word"] := ⟨rfl, fun _ _ _ _ _ _ us hl => match us, hl with | [_, _], _ => rfl⟩
theorem bk_from_cyclic_word_9 : BindK d_from_cyclic_word ["tags", "word"] ["word", "tags"] 0 [1, 0] := ⟨rfl, fun _ _ _ _ _ _ us ws h1 h2 => match us, ws, h1, h2 with | [], [_, _], _, _ => rfl⟩
theorem ok_from_cyclic_word {P : Program} {w : World} {K : PySem.W.Frag} {mg : Str → Option Value} {base : Heap} (z : HD K mg) : FOk P w K mg base d_from_cyclic_word 3 ["tags", "word"] 2 f_from_cyclic_word :=
  FOk.mk' (N := ["tags", "word", "many", "found", "start", "part"]) (b := b_from_cyclic_word) (by obtain ⟨h, X, G, c⟩ := z; exact c.says.def_ 38 (d := d_from_cyclic_word) rfl) sc_from_cyclic_word rfl fun f cdv A outer s H E hr tk hp => (jss_cons (js_expr (jw_f (ok_check_tags z) (hr.mono (by decide)) tk rfl (m_check_tags z) bn_check_tags (jl_cons (jd_var (pv 0)) jl_nil)))
    (jss_cons (js_expr (jw_f (ok_check_signs z) (hr.mono (by decide)) tk rfl (m_check_signs z) bn_check_signs (jl_cons (jd_var (pv 1)) jl_nil)))
    (jss_cons (js_par2 (ps_par (i := 2) (j := 3) rfl sc_from_cyclic_word.nd rfl rfl (by decide) rfl rfl (jlw_cons (jw_len rfl (n_len z) (jos_cons (jo_e (jd_fz (jw_fld (fo_rules z) (jo_v (pv 0))))) jos_nil)) (jlw_cons (jw_d jd_str) jlw_nil)) rfl))
    (jss_cons (js_for hp rfl (ji_rng3 rfl (n_range z) (jl_cons jd_int (jl_cons (jd_fz (jw_len rfl (n_len z) (jos_cons (jo_v (pv 1)) jos_nil))) (jl_cons (jd_var (pv 2)) jl_nil)))) (jg_name (pg_name sc_from_cyclic_word.nd rfl (.inl rfl)))
    (jss_cons (js_set (i := 5) sc_from_cyclic_word.nd rfl (.inl rfl) (jw_sl (jo_v (pv 1)) (jp_e (jd_var (pv 4))) (jp_e (jd_fz (jw_add (jo_v (pv 4)) (jo_v (pv 2)))))))
    (jss_cons (js_if (jt_w (jtw_or (jt_c cLt (jo_e (jd_fz (jw_len rfl (n_len z) (jos_cons (jo_v (pv 5)) jos_nil)))) (jo_v (pv 2))) (jtw_or1 (jt_c (cNe hr.units) (jo_e (jd_fz (jw_scount (jo_v (pv 5)) (jos_cons (jo_e jd_str) jos_nil)))) (jo_e jd_int)))))
    (jss_one (js_ret (jw_d jd_non)))
    jss_nil)
    (jss_one (js_set (i := 3) sc_from_cyclic_word.nd rfl (.inl rfl) (jw_add (jo_v (pv 3)) (jo_e (jd_fz (jw_ix (u1 hr) (jo_e (jd_gstr rfl (m_LETTERS_tags z))) (jo_e (jd_fz (jw_sindex (jo_v (pv 5)) (jos_cons (jo_e jd_str) jos_nil)))))))))))))
    (jss_one (js_retV (pv 3)))))))

/-! _law_letters -/
theorem sc__law_letters : FnScope ["many", "signs", "found", "k", "part", "sign"] ["many", "signs"] d__law_letters.scope := ⟨rfl, rfl, rfl, by decide +kernel, rfl, by decide +kernel, by decide +kernel⟩
theorem bn__law_letters : BindN d__law_letters ["many", "signs"] := ⟨rfl, fun _ _ _ _ _ _ us hl => match us, hl with | [_, _], _ => rfl⟩
theorem ok__law_letters {P : Program} {w : World} {K : PySem.W.Frag} {mg : Str → Option Value} {base : Heap} (z : HD K mg) : FOk P w K mg base d__law_letters 1 ["many", "signs"] 2 f__law_letters :=
  FOk.mk' (N := ["many", "signs", "found", "k", "part", "sign"]) (b := b__law_letters) (by obtain ⟨h, X, G, c⟩ := z; exact c.says.def_ 39 (d := d__law_letters) rfl) sc__law_letters rfl fun f cdv A outer s H E hr tk hp => (jss_cons (js_set (i := 2) sc__law_letters.nd rfl (.inl rfl) (jw_d jd_str))
    (jss_cons (js_if (jt_c (cNe hr.units) (jo_e (jd_fz (jw_mod (jo_e (jd_fz (jw_len rfl (n_len z) (jos_cons (jo_v (pv 1)) jos_nil)))) (jo_v (pv 0))))) (jo_e jd_int))
    (jss_one (js_ret (jw_d jd_non)))
    jss_nil)
    (jss_cons (js_for hp rfl (ji_rng3 rfl (n_range z) (jl_cons jd_int (jl_cons (jd_fz (jw_len rfl (n_len z) (jos_cons (jo_v (pv 1)) jos_nil))) (jl_cons (jd_var (pv 0)) jl_nil)))) (jg_name (pg_name sc__law_letters.nd rfl (.inl rfl)))
    (jss_cons (js_set (i := 4) sc__law_letters.nd rfl (.inl rfl) (jw_sl (jo_v (pv 1)) (jp_e (jd_var (pv 3))) (jp_e (jd_fz (jw_add (jo_v (pv 3)) (jo_v (pv 0)))))))
    (jss_cons (js_if (jt_c (cNe hr.units) (jo_e (jd_fz (jw_len rfl (n_len z) (jos_cons (jo_e (jd_fz (jw_comp (own := [("sign", 5)]) rfl sc__law_letters.nd (ji_seq (jd_var (pv 4))) (blkOk_by (own := [("sign", 5)]) (by kernel_rfl)) (fun _ _ _ _ _ => jg_ct (pg_name sc__law_letters.nd rfl (.inl rfl))) (fun _ _ _ _ _ => jts_one (jt_c (cEq hr.units) (jo_v (pv 5)) (jo_e jd_str))) (fun _ _ _ _ _ => (jd_var (pv 5))) (by decide)))) jos_nil)))) (jo_e jd_int))
    (jss_one (js_ret (jw_d jd_non)))
    jss_nil)
    (jss_one (js_set (i := 2) sc__law_letters.nd rfl (.inl rfl) (jw_add (jo_v (pv 2)) (jo_e (jd_fz (jw_ix (u1 hr) (jo_e jd_str) (jo_e (jd_fz (jw_sindex (jo_v (pv 4)) (jos_cons (jo_e jd_str) jos_nil)))))))))))))
    (jss_one (js_retV (pv 2))))))

/-! _law_cyclic_right -/
theorem sc__law_cyclic_right : FnScope ["box", "rules", "word", "by_name", "many", "tags", "system", "rule", "way", "how", "start", "k", "steps", "other", "run", "due", "turn", "signs"] ["box", "rules", "word", "by_name"] d__law_cyclic_right.scope := ⟨rfl, rfl, rfl, by decide +kernel, rfl, by decide +kernel, by decide +kernel⟩
theorem bn__law_cyclic_right : BindN d__law_cyclic_right ["box", "rules", "word", "by_name"] := ⟨rfl, fun _ _ _ _ _ _ us hl => match us, hl with | [_, _, _, _], _ => rfl⟩
theorem ok__law_cyclic_right {P : Program} {w : World} {K : PySem.W.Frag} {mg : Str → Option Value} {base : Heap} (z : HD K mg) : FOk P w K mg base d__law_cyclic_right 8 ["box", "rules", "word", "by_name"] 4 f__law_cyclic_right :=
  FOk.mk' (N := ["box", "rules", "word", "by_name", "many", "tags", "system", "rule", "way", "how", "start", "k", "steps", "other", "run", "due", "turn", "signs"]) (b := b__law_cyclic_right) (by obtain ⟨h, X, G, c⟩ := z; exact c.says.def_ 40 (d := d__law_cyclic_right) rfl) sc__law_cyclic_right rfl fun f cdv A outer s H E hr tk hp => (jss_cons (js_set (i := 4) sc__law_cyclic_right.nd rfl (.inr rfl) (jw_len rfl (n_len z) (jos_cons (jo_v (pv 1)) jos_nil)))
    (jss_cons (js_set (i := 5) sc__law_cyclic_right.nd rfl (.inl rfl) (jw_new (d := d_Tags_init) (E := E) (mk_Tags z) (ok_Tags_init z) (hr.mono (by decide)) tk rfl (m_Tags z) bn_Tags_init (jl_cons jd_int (jl_cons (jd_var (pv 1)) jl_nil))))
    (jss_cons (js_set (i := 6) sc__law_cyclic_right.nd rfl (.inl rfl) (jw_if (jt_val (jw_d (jd_var (pv 3)))) (jw_fK0 (ks := ["tags"]) (pe := [0]) (ok_to_cyclic z) (hr.mono (by decide)) tk rfl (m_to_cyclic z) bk_to_cyclic_7 (jk_cons (jd_var (pv 5)) jk_nil) (fun _ _ _ h => len_cons (fun _ _ _ h => len_nil h) h)) (jw_f (ok_to_cyclic z) (hr.mono (by decide)) tk rfl (m_to_cyclic z) bn_to_cyclic (jl_cons (jd_var (pv 5)) jl_nil))))
    (jss_cons (js_if (jt_not (jt_val (jw_f (ok__law_same z 6) (hr.mono (by decide)) tk rfl (m__law_same z) bn__law_same (jl_cons (jd_var (pv 6)) (jl_cons (jd_fz (jw_tuple rfl rfl (n_tuple z) (jos_cons (jo_e (jd_fz (jw_add (jo_e (jd_fz (jw_comp (own := [("rule", 7)]) rfl sc__law_cyclic_right.nd (ji_seq (jd_var (pv 1))) (blkOk_by (own := [("rule", 7)]) (by kernel_rfl)) (fun _ _ _ _ _ => jg_ct (pg_name sc__law_cyclic_right.nd rfl (.inl rfl))) (fun _ _ _ _ _ => jts_nil) (fun _ _ _ _ _ => (jd_fz (jw_f (ok__law_signs z) (hr.mono (by decide)) (takes0 _) rfl (m__law_signs z) bn__law_signs (jl_cons (jd_var (pv 4)) (jl_cons (jd_var (pv 7)) jl_nil))))) (by decide)))) (jo_e (jd_fz (jw_mul (jo_e (jd_fz (jw_lst (jl_cons jd_str jl_nil)))) (jo_v (pv 4)))))))) jos_nil))) jl_nil)))))
    (jss_one (js_ret (jw_d jd_bl)))
    jss_nil)
    (jss_cons (js_unp (tg := .Name "" ⟨0, 0, 0, 0⟩) (ps_asg (jd_fz (jw_f (ok__law_way z) (hr.mono (by decide)) tk rfl (m__law_way z) bn__law_way (jl_cons jd_int (jl_cons (jd_var (pv 1)) (jl_cons (jd_var (pv 2)) (jl_cons jd_int jl_nil)))))) (jg_tup rfl (jgs_cons (jg_name (pg_name sc__law_cyclic_right.nd rfl (.inr rfl))) (jgs_cons (jg_name (pg_name sc__law_cyclic_right.nd rfl (.inl rfl))) jgs_nil)))))
    (jss_cons (js_set (i := 10) sc__law_cyclic_right.nd rfl (.inl rfl) (jw_if (jt_val (jw_d (jd_var (pv 3)))) (jw_fK0 (ks := ["word", "tags"]) (pe := [1, 0]) (ok_cyclic_word z) (hr.mono (by decide)) tk rfl (m_cyclic_word z) bk_cyclic_word_8 (jk_cons (jd_var (pv 2)) (jk_cons (jd_var (pv 5)) jk_nil)) (fun _ _ _ h => len_cons (fun _ _ _ h => len_cons (fun _ _ _ h => len_nil h) h) h)) (jw_f (ok_cyclic_word z) (hr.mono (by decide)) tk rfl (m_cyclic_word z) bn_cyclic_word (jl_cons (jd_var (pv 5)) (jl_cons (jd_var (pv 2)) jl_nil)))))
    (jss_cons (js_if (jt_not (jt_val (jw_f (ok__law_same z 6) (hr.mono (by decide)) tk rfl (m__law_same z) bn__law_same (jl_cons (jd_var (pv 10)) (jl_cons (jd_fz (jw_f (ok__law_signs z) (hr.mono (by decide)) tk rfl (m__law_signs z) bn__law_signs (jl_cons (jd_var (pv 4)) (jl_cons (jd_var (pv 2)) jl_nil)))) jl_nil)))))
    (jss_one (js_ret (jw_d jd_bl)))
    jss_nil)
    (jss_cons (js_for hp rfl (ji_rng1 rfl (n_range z) (jl_cons (jd_fz (jw_len rfl (n_len z) (jos_cons (jo_v (pv 8)) jos_nil))) jl_nil)) (jg_name (pg_name sc__law_cyclic_right.nd rfl (.inr rfl)))
    (jss_cons (js_set (i := 12) sc__law_cyclic_right.nd rfl (.inl rfl) (jw_mul (jo_e (jd_fz (jw_mul (jo_e jd_int) (jo_v (pv 4))))) (jo_v (pv 11))))
    (jss_cons (js_if (jt_w (jtw_or (jt_c cGt (jo_v (pv 12)) (jo_e jd_int)) (jtw_or (jt_c cGt (jo_e (jd_fz (jw_len rfl (n_len z) (jos_cons (jo_e (jd_fz (jw_ix (u1 hr) (jo_v (pv 8)) (jo_v (pv 11))))) jos_nil)))) (jo_e jd_int)) (jtw_or1 (jt_c (cNe hr.units) (jo_e (jd_fz (jw_comp (own := [("other", 13)]) rfl sc__law_cyclic_right.nd (ji_seq (jd_fz (jw_sl (jo_v (pv 8)) jp_none (jp_e (jd_var (pv 11)))))) (blkOk_by (own := [("other", 13)]) (by kernel_rfl)) (fun _ _ _ _ _ => jg_ct (pg_name sc__law_cyclic_right.nd rfl (.inl rfl))) (fun _ _ _ _ _ => jts_one (jt_c (cEq hr.units) (jo_v (pv 13)) (jo_e (jd_fz (jw_ix (u1 hr) (jo_v (pv 8)) (jo_v (pv 11))))))) (fun _ _ _ _ _ => (jd_var (pv 13))) (by decide)))) (jo_e (jd_fz (jw_lst jl_nil))))))))
    (jss_one js_break)
    jss_nil)
    (jss_cons (js_set (i := 14) sc__law_cyclic_right.nd rfl (.inl rfl) (jw_if (jt_val (jw_d (jd_var (pv 3)))) (jw_fK0 (ks := ["steps", "word", "system"]) (pe := [2, 1, 0]) (ok_cyclic_run z) (hr.mono (by decide)) tk rfl (m_cyclic_run z) bk_cyclic_run_0 (jk_cons (jd_var (pv 12)) (jk_cons (jd_var (pv 10)) (jk_cons (jd_var (pv 6)) jk_nil))) (fun _ _ _ h => len_cons (fun _ _ _ h => len_cons (fun _ _ _ h => len_cons (fun _ _ _ h => len_nil h) h) h) h)) (jw_f (ok_cyclic_run z) (hr.mono (by decide)) tk rfl (m_cyclic_run z) bn_cyclic_run (jl_cons (jd_var (pv 6)) (jl_cons (jd_var (pv 10)) (jl_cons (jd_var (pv 12)) jl_nil))))))
    (jss_cons (js_set (i := 15) sc__law_cyclic_right.nd rfl (.inl rfl) (jw_f (ok__law_cyclic z) (hr.mono (by decide)) tk rfl (m__law_cyclic z) bn__law_cyclic (jl_cons (jd_var (pv 6)) (jl_cons (jd_var (pv 10)) (jl_cons (jd_var (pv 12)) jl_nil)))))
    (jss_cons (js_if (jt_w (jtw_or (jt_not (jt_val (jw_f (ok__law_same z 6) (hr.mono (by decide)) tk rfl (m__law_same z) bn__law_same (jl_cons (jd_var (pv 14)) (jl_cons (jd_var (pv 15)) jl_nil))))) (jtw_or1 (jt_w (jtw_and (jt_c (cEq hr.units) (jo_e (jd_fz (jw_ix (u1 hr) (jo_v (pv 15)) (jo_e jd_int)))) (jo_e jd_str)) (jtw_and1 (jt_not (jt_val (jw_f (ok__law_same z 6) (hr.mono (by decide)) tk rfl (m__law_same z) bn__law_same (jl_cons (jd_fz (jw_lst (jl_cons (jd_fz (jw_ix (u1 hr) (jo_v (pv 14)) (jo_e jd_int))) (jl_cons (jd_fz (jw_ix (u1 hr) (jo_v (pv 14)) (jo_e jd_int))) jl_nil)))) (jl_cons (jd_fz (jw_lst (jl_cons jd_int (jl_cons (jd_fz (jw_f (ok__law_signs z) (hr.mono (by decide)) tk rfl (m__law_signs z) bn__law_signs (jl_cons (jd_var (pv 4)) (jl_cons (jd_fz (jw_ix (u1 hr) (jo_v (pv 8)) (jo_v (pv 11)))) jl_nil)))) jl_nil)))) jl_nil)))))))))))
    (jss_one (js_ret (jw_d jd_bl)))
    jss_nil)
    (jss_one (js_if (jt_w (jtw_and (jt_c (cEq hr.units) (jo_e (jd_fz (jw_ix (u1 hr) (jo_v (pv 15)) (jo_e jd_int)))) (jo_e jd_str)) (jtw_and1 (jt_not (jt_val (jw_f (ok__law_same z 6) (hr.mono (by decide)) tk rfl (m__law_same z) bn__law_same (jl_cons (jd_fz (jw_if (jt_val (jw_d (jd_var (pv 3)))) (jw_fK0 (ks := ["word", "tags"]) (pe := [1, 0]) (ok_from_cyclic_word z) (hr.mono (by decide)) tk rfl (m_from_cyclic_word z) bk_from_cyclic_word_9 (jk_cons (jd_fz (jw_ix (u1 hr) (jo_v (pv 14)) (jo_e jd_int))) (jk_cons (jd_var (pv 5)) jk_nil)) (fun _ _ _ h => len_cons (fun _ _ _ h => len_cons (fun _ _ _ h => len_nil h) h) h)) (jw_f (ok_from_cyclic_word z) (hr.mono (by decide)) tk rfl (m_from_cyclic_word z) bn_from_cyclic_word (jl_cons (jd_var (pv 5)) (jl_cons (jd_fz (jw_ix (u1 hr) (jo_v (pv 14)) (jo_e jd_int))) jl_nil))))) (jl_cons (jd_fz (jw_ix (u1 hr) (jo_v (pv 8)) (jo_v (pv 11)))) jl_nil))))))))
    (jss_one (js_ret (jw_d jd_bl)))
    jss_nil))))))))
    (jss_cons (js_for hp rfl (ji_rng1 rfl (n_range z) (jl_cons jd_int jl_nil)) (jg_name (pg_name sc__law_cyclic_right.nd rfl (.inl rfl)))
    (jss_cons (js_set (i := 17) sc__law_cyclic_right.nd rfl (.inl rfl) (jw_join (jo_e jd_str) (jos_cons (jo_e (jd_fz (jw_comp (own := [("k", 11)]) rfl sc__law_cyclic_right.nd (ji_rng1 rfl (n_range z) (jl_cons (jd_fz (jw_add (jo_e (jd_fz (jw_mul (jo_v (pv 4)) (jo_e (jd_fz (jw_f (ok__law_take z) (hr.mono (by decide)) tk rfl (m__law_take z) bn__law_take (jl_cons (jd_ref (pv 0)) (jl_cons jd_int jl_nil)))))))) (jo_e (jd_fz (jw_int rfl (n_int z) (jos_cons (jo_e (jd_fz (jw_c (cEq hr.units) (jo_e (jd_fz (jw_f (ok__law_take z) (hr.mono (by decide)) tk rfl (m__law_take z) bn__law_take (jl_cons (jd_ref (pv 0)) (jl_cons jd_int jl_nil))))) (jo_e jd_int)))) jos_nil)))))) jl_nil)) (blkOk_by (own := [("k", 11)]) (by kernel_rfl)) (fun _ _ _ _ _ => jg_ct (pg_name sc__law_cyclic_right.nd rfl (.inl rfl))) (fun _ _ _ _ _ => jts_nil) (fun _ _ _ _ _ => (jd_fz (jw_ix (u1 hr) (jo_e jd_str) (jo_e (jd_fz (jw_int rfl (n_int z) (jos_cons (jo_e (jd_fz (jw_c (cEq hr.units) (jo_e (jd_fz (jw_f (ok__law_take z) (hr.mono (by decide)) (takes0 _) rfl (m__law_take z) bn__law_take (jl_cons (jd_ref (pv 0)) (jl_cons (jd_fz (jw_add (jo_v (pv 4)) (jo_e jd_int))) jl_nil))))) (jo_e jd_int)))) jos_nil))))))) (by decide)))) jos_nil)))
    (jss_one (js_if (jt_not (jt_val (jw_f (ok__law_same z 6) (hr.mono (by decide)) tk rfl (m__law_same z) bn__law_same (jl_cons (jd_fz (jw_f (ok_from_cyclic_word z) (hr.mono (by decide)) tk rfl (m_from_cyclic_word z) bn_from_cyclic_word (jl_cons (jd_var (pv 5)) (jl_cons (jd_var (pv 17)) jl_nil)))) (jl_cons (jd_fz (jw_f (ok__law_letters z) (hr.mono (by decide)) tk rfl (m__law_letters z) bn__law_letters (jl_cons (jd_var (pv 4)) (jl_cons (jd_var (pv 17)) jl_nil)))) jl_nil)))))
    (jss_one (js_ret (jw_d jd_bl)))
    jss_nil))))
    (jss_one (js_ret (jw_d jd_bl))))))))))))

/-! _law_right -/
theorem sc__law_right : FnScope ["box", "by_name", "turn", "take", "rules", "word", "rule"] ["box"] d__law_right.scope := ⟨rfl, rfl, rfl, by decide +kernel, rfl, by decide +kernel, by decide +kernel⟩
theorem bn__law_right : BindN d__law_right ["box"] := ⟨rfl, fun _ _ _ _ _ _ us hl => match us, hl with | [_], _ => rfl⟩
theorem ok__law_right {P : Program} {w : World} {K : PySem.W.Frag} {mg : Str → Option Value} {base : Heap} (z : HD K mg) : FOk P w K mg base d__law_right 9 ["box"] 1 f__law_right :=
  FOk.mk' (N := ["box", "by_name", "turn", "take", "rules", "word", "rule"]) (b := b__law_right) (by obtain ⟨h, X, G, c⟩ := z; exact c.says.def_ 41 (d := d__law_right) rfl) sc__law_right rfl fun f cdv A outer s H E hr tk hp => (jss_cons (js_set (i := 1) sc__law_right.nd rfl (.inl rfl) (jw_c (cEq hr.units) (jo_e (jd_fz (jw_f (ok__law_take z) (hr.mono (by decide)) tk rfl (m__law_take z) bn__law_take (jl_cons (jd_ref (pv 0)) (jl_cons jd_int jl_nil))))) (jo_e jd_int)))
    (jss_cons (js_for hp rfl (ji_rng1 rfl (n_range z) (jl_cons jd_int jl_nil)) (jg_name (pg_name sc__law_right.nd rfl (.inl rfl)))
    (jss_cons (js_unp (tg := .Name "" ⟨0, 0, 0, 0⟩) (ps_asg (jd_fz (jw_f (ok__law_drawn z) (hr.mono (by decide)) tk rfl (m__law_drawn z) bn__law_drawn (jl_cons (jd_ref (pv 0)) jl_nil))) (jg_tup rfl (jgs_cons (jg_name (pg_name sc__law_right.nd rfl (.inl rfl))) (jgs_cons (jg_name (pg_name sc__law_right.nd rfl (.inl rfl))) (jgs_cons (jg_name (pg_name sc__law_right.nd rfl (.inl rfl))) jgs_nil))))))
    (jss_one (js_if (jt_w (jtw_or (jt_not (jt_val (jw_f (ok__law_tags_right z) (hr.mono (by decide)) tk rfl (m__law_tags_right z) bn__law_tags_right (jl_cons (jd_ref (pv 0)) (jl_cons (jd_var (pv 3)) (jl_cons (jd_var (pv 4)) (jl_cons (jd_var (pv 5)) (jl_cons (jd_var (pv 1)) jl_nil)))))))) (jtw_or1 (jt_not (jt_val (jw_f (ok__law_cyclic_right z) (hr.mono (by decide)) tk rfl (m__law_cyclic_right z) bn__law_cyclic_right (jl_cons (jd_ref (pv 0)) (jl_cons (jd_fz (jw_tuple rfl rfl (n_tuple z) (jos_cons (jo_e (jd_fz (jw_comp (own := [("rule", 6)]) rfl sc__law_right.nd (ji_seq (jd_var (pv 4))) (blkOk_by (own := [("rule", 6)]) (by kernel_rfl)) (fun _ _ _ _ _ => jg_ct (pg_name sc__law_right.nd rfl (.inl rfl))) (fun _ _ _ _ _ => jts_nil) (fun _ _ _ _ _ => (jd_fz (jw_sl (jo_v (pv 6)) jp_none (jp_e jd_int)))) (by decide)))) jos_nil))) (jl_cons (jd_fz (jw_sl (jo_v (pv 5)) jp_none (jp_e jd_int))) (jl_cons (jd_fz (jw_not (jw_d (jd_var (pv 1))))) jl_nil))))))))))
    (jss_one (js_ret (jw_d jd_bl)))
    jss_nil))))
    (jss_one (js_ret (jw_and (jw_f (ok__law_any_cyclic_right z) (hr.mono (by decide)) tk rfl (m__law_any_cyclic_right z) bn__law_any_cyclic_right (jl_cons (jd_ref (pv 0)) (jl_cons (jd_var (pv 1)) jl_nil))) (jw_one (jw_f (ok__law_collatz_right z) (hr.mono (by decide)) tk rfl (m__law_collatz_right z) bn__law_collatz_right (jl_cons (jd_ref (pv 0)) (jl_cons (jd_fz (jw_not (jw_d (jd_var (pv 1))))) jl_nil)))))))))

/-! _law_box -/
theorem sc__law_box : FnScope ["great"] ["great"] d__law_box.scope := ⟨rfl, rfl, rfl, by decide +kernel, rfl, by decide +kernel, by decide +kernel⟩
theorem bn__law_box : BindN d__law_box ["great"] := ⟨rfl, fun _ _ _ _ _ _ us hl => match us, hl with | [_], _ => rfl⟩
theorem ok__law_box {P : Program} {w : World} {K : PySem.W.Frag} {mg : Str → Option Value} {base : Heap} (z : HD K mg) : FOk P w K mg base d__law_box 1 ["great"] 1 f__law_box :=
  FOk.mk' (N := ["great"]) (b := b__law_box) (by obtain ⟨h, X, G, c⟩ := z; exact c.says.def_ 42 (d := d__law_box) rfl) sc__law_box rfl fun f cdv A outer s H E hr tk hp => (jss_one (js_ret (jw_lst (jl_cons (jd_fz (jw_abs rfl (n_abs z) (jos_cons (jo_v (pv 0)) jos_nil))) (jl_cons (jd_fz (jw_c cGe (jo_e (jd_fz (jw_abs rfl (n_abs z) (jos_cons (jo_v (pv 0)) jos_nil)))) (jo_e (jd_fz (jw_pow (jo_e jd_int) (jo_e jd_int)))))) (jl_cons (jd_fz (jw_mod (jo_e (jd_fz (jw_int rfl (n_int z) (jos_cons (jo_e (jd_fz (jw_abs rfl (n_abs z) (jos_cons (jo_v (pv 0)) jos_nil)))) jos_nil)))) (jo_e jd_int))) (jl_cons jd_int jl_nil)))))))

/-! _law_cell -/
theorem sc__law_cell : FnScope ["script", "k"] ["script", "k"] d__law_cell.scope := ⟨rfl, rfl, rfl, by decide +kernel, rfl, by decide +kernel, by decide +kernel⟩
theorem bn__law_cell : BindN d__law_cell ["script", "k"] := ⟨rfl, fun _ _ _ _ _ _ us hl => match us, hl with | [_, _], _ => rfl⟩
theorem ok__law_cell {P : Program} {w : World} {K : PySem.W.Frag} {mg : Str → Option Value} {base : Heap} (z : HD K mg) : FOk P w K mg base d__law_cell 1 ["script", "k"] 2 f__law_cell :=
  FOk.mk' (N := ["script", "k"]) (b := b__law_cell) (by obtain ⟨h, X, G, c⟩ := z; exact c.says.def_ 43 (d := d__law_cell) rfl) sc__law_cell rfl fun f cdv A outer s H E hr tk hp => (jss_one (js_ret (jw_if (jt_c cLt (jo_v (pv 1)) (jo_e (jd_fz (jw_len rfl (n_len z) (jos_cons (jo_v (pv 0)) jos_nil))))) (jw_ix (u1 hr) (jo_v (pv 0)) (jo_v (pv 1))) (jw_add (jo_e (jd_fz (jw_mul (jo_e jd_int) (jo_v (pv 1))))) (jo_e (jd_fz (jw_mod (jo_e (jd_fz (jw_int rfl (n_int z) (jos_cons (jo_e (jd_fz (jw_sum rfl rfl (n_sum z) (jos_cons (jo_e (jd_fz (jw_sl (jo_v (pv 0)) jp_none (jp_e jd_int)))) jos_nil)))) jos_nil)))) (jo_e jd_int))))))))

/-! law -/
theorem sc_law : FnScope ["script", "k"] ["script"] d_law.scope := ⟨rfl, rfl, rfl, by decide +kernel, rfl, by decide +kernel, by decide +kernel⟩
theorem bn_law : BindN d_law ["script"] := ⟨rfl, fun _ _ _ _ _ _ us hl => match us, hl with | [_], _ => rfl⟩
theorem ok_law {P : Program} {w : World} {K : PySem.W.Frag} {mg : Str → Option Value} {base : Heap} (z : HD K mg) : FOk P w K mg base d_law 10 ["script"] 1 f_law :=
  FOk.mk' (N := ["script", "k"]) (b := b_law) (by obtain ⟨h, X, G, c⟩ := z; exact c.says.def_ 44 (d := d_law) rfl) sc_law rfl fun f cdv A outer s H E hr tk hp => (jss_cons (js_for hp rfl (ji_rng1 rfl (n_range z) (jl_cons jd_int jl_nil)) (jg_name (pg_name sc_law.nd rfl (.inl rfl)))
    (jss_one (js_if (jt_not (jt_val (jw_f (ok__law_right z) (hr.mono (by decide)) tk rfl (m__law_right z) bn__law_right (jl_cons (jd_sh (jw_f (ok__law_box z) (hr.mono (by decide)) tk rfl (m__law_box z) bn__law_box (jl_cons (jd_fz (jw_f (ok__law_cell z) (hr.mono (by decide)) tk rfl (m__law_cell z) bn__law_cell (jl_cons (jd_var (pv 0)) (jl_cons (jd_var (pv 1)) jl_nil)))) jl_nil))) jl_nil))))
    (jss_one (js_ret (jw_d jd_bl)))
    jss_nil)))
    (jss_one (js_ret (jw_d jd_bl))))
end Law
end

section
set_option Elab.async false
set_option linter.all false
set_option maxRecDepth 100000
set_option maxHeartbeats 0
namespace Law
open PySem PySem.Spec PyProof.Rows L2 PL
theorem run (w : World) : HandSHeadRun.RunEq R (PySem.W.view R.prog [79]) hk ob 20000 loose w := by
  intro os
  kernel_rfl
end Law
open PySem PySem.W PySem.Calls PyProof.Rows in
theorem PySem.Challenge.cw_turingbench_k85_whole_tags_cyclic_ones_c_holds : PySem.Challenge.rw_turingbench_k85_whole_tags_cyclic_ones_c.Holds := by
  w_on; o_law
  refine HandSHeadRun.head_any (r := PySem.W.OpenLaw.row PySem.Challenge.rw_turingbench_k85_whole_tags_cyclic_ones_c) (q := PySem.W.view (PySem.W.OpenLaw.row PySem.Challenge.rw_turingbench_k85_whole_tags_cyclic_ones_c).prog [79]) (H := Law.hk) (ob := Law.ob) (M := 20000) (loose := Law.loose) (d := HandSHeadRun.topDef (PySem.W.OpenLaw.row PySem.Challenge.rw_turingbench_k85_whole_tags_cyclic_ones_c).prog 79) (kwd := []) Law.ob_eq
    (by kernel_rfl) (fun s => by kernel_rfl) Law.run (by kernel_rfl) (by kernel_rfl) (by kernel_rfl) (by rfl) (by first | assumption | decide +kernel) (by decide +kernel) ⟨rfl, rfl, rfl, rfl, rfl, by decide +kernel⟩ ?hw ?hc
  case hw => w_witness2
  case hc =>
    refine PL.walk_ofP (l := PySem.Challenge.rw_turingbench_k85_whole_tags_cyclic_ones_c) (n := 63) (k := 10) (x := "script") (f := Law.f_law) rfl (by decide) (by kernel_rfl) ⟨rfl, by decide, by decide⟩ Law.plain ?F
    intro w mg fa h Y G hmg0
    obtain ⟨K, KX, c⟩ := Y
    have z : Law.HD K mg := ⟨h, KX, G, c⟩
    have hmg : mg ("law" : PySem.Str) = some (.ref fa) := by
      have e : (HandSHeadRun.topDef (PySem.W.OpenLaw.row PySem.Challenge.rw_turingbench_k85_whole_tags_cyclic_ones_c).prog 79).name = ("law" : PySem.Str) := by kernel_rfl
      rw [← e]
      exact hmg0
    have e := hmg.symm.trans (Law.m_law z)
    cases e
    obtain ⟨fd, F⟩ := c.says.def_ 44 (d := Law.d_law) rfl
    have b := L2.FunD.bindsA (ps := ["script"]) F fun _ _ _ _ _ _ us hl => match us, hl with | [_], _ => rfl
    exact ⟨K, fd, KX, fun s v => b s [v] rfl, fun base _ _ => PL.FOk.fn (Law.ok_law (P := (PySem.Challenge.rw_turingbench_k85_whole_tags_cyclic_ones_c).prog) (w := w) (base := base) z) fun fd' F' => PL.funD_one F F'⟩
end
