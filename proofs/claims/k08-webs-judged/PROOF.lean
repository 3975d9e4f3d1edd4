import PyProof.Rows.All
import Wide.All
import OpenK.AllK
import Wide.FinOn
import HandS.ForMost
import HandS.ForExc
import HandS.Deep
import HandS.IsInst
import HandS.Zip
import HandS.Walk
import HandS.Lambda
import HandS.Defaults
import HandS.TryMany
import KE.KDictKeyed
import HandS.TupAny
import KE.GoesNew
import HandS.Iter
import KE.GoesEnum
import HandS.Small
import HandS.ListItems
import HandS.Style
import HandS.More
import HandS.EndTab
import PyProof.ReprRoads
import HandS.WrittenGet
import HandS.RaiseMore
import HandS.ExcField
import KE.KExcSuper
import KE.KSuper
import HandS.ExcInit
import HandS.HeadWalk
import HandS.Head2
import HandS.HeadHook4
import PySem.Challenge.RW_pagestrue_k08_whole_webs_judged
set_option Elab.async false
set_option linter.all false
set_option maxRecDepth 100000
set_option maxHeartbeats 0
namespace Ev
open L2 PySem PySem.Spec PyProof.Rows

/-! ## data: trees, and numbers of cells that may change -/
inductive D where
  | non
  | bl (b : Bool)
  | int (i : Int)
  | str (x : Str)
  | lst (xs : List D)
  | tup (xs : List D)
  | frz (xs : List D)
  | dct (ks : List D) (vs : List D)
  | m (k : Nat)
  | fn (f : Nat)
  | cl (c : Nat)
  | ty (n : String)
instance : Inhabited D := ⟨.non⟩
/-- what a cell holds: a list, a dict with int and text keys, a dict whose keys are tuples -/
inductive Ob where
  | lst (xs : List D)
  | dct (ks : List D) (vs : List D)
  | ndc (ks : List D) (vs : List D)
abbrev Sto := List Ob
abbrev Env := List (Option D)
/-- an answer: a value, an exception (its class, its fields), or nothing -/
inductive R (α : Type) where
  | ok (a : α) (S : Sto)
  | ex (c : Nat) (as : List D) (S : Sto)
  | bad
def R.bind {α β : Type} (r : R α) (g : α → Sto → R β) : R β := match r with
  | .ok a S => g a S
  | .ex c as S => .ex c as S
  | .bad => .bad
@[simp] theorem R.bind_ok {α β : Type} (a : α) (S : Sto) (g : α → Sto → R β) : (R.ok a S).bind g = g a S := id rfl
@[simp] theorem R.bind_ex {α β : Type} (c : Nat) (as : List D) (S : Sto) (g : α → Sto → R β) : (R.ex c as S : R α).bind g = .ex c as S := id rfl
@[simp] theorem R.bind_bad {α β : Type} (g : α → Sto → R β) : (R.bad : R α).bind g = .bad := id rfl

/-- what stays through a law: where defs and classes stand, the fields of errors, the tables of code objects -/
structure Gc where
  prog : Program
  w : World
  K : PySem.W.Frag
  mg : Str → Option Value
  base : Heap
  fa : Nat → Addr
  ca : Nat → Addr
  xf : Nat → List Str
  T : List (Addr × Str)

def keyD : Key → D
  | .inl i => .int i
  | .inr x => .str x

/-- a dict whose keys are tuples: each key with the tuple's own place, each value -/
def NdO (G : Gc) (a : Addr) (es : List (NestedKey × Addr × V)) : HO := .ext fun h => es.length ≤ sizeLine ∧ (a == sysModules) = false ∧ (es.map (·.1)).Nodup ∧
  ∃ (us : List Value) (o : Obj) (arr : Array DictEntry) (ep : Nat), Vals (es.map (·.2.2)) us ∧ h.get? a = some o ∧ o.ExactDict ∧ o.data = .dict arr ep ∧
    arr.toList = (List.zipWith (fun e u => ((e.1, e.2.1, u) : NestedKey × Addr × Value)) es us).map (entryOfKey (nestedKind G.prog G.w))

mutual
/-- a tree as a key -/
def nkD : D → Option NestedKey
  | .non => some .none
  | .int i => some (.num i)
  | .str x => some (.text x)
  | .tup ds => (nksD ds).map .tup
  | _ => none
def nksD : List D → Option (List NestedKey)
  | [] => some []
  | d :: ds => match nkD d, nksD ds with
    | some k, some ks => some (k :: ks)
    | _, _ => none
end

section
variable (G : Gc) (H : Hp) (own res : List Addr)
mutual
/-- v stands for d: trees stand apart from the cells (own) and from what is being made (res) -/
def Rep : D → V → Prop
  | .non, v => v = .non
  | .bl b, v => v = .bl b
  | .int i, v => v = .int i
  | .str x, v => v = .str x
  | .lst ds, v => ∃ a vs, v = .ref a ∧ H a = some (.lst vs) ∧ a ∉ own ∧ a ∉ res ∧ Reps ds vs
  | .tup ds, v => ∃ a vs, v = .ref a ∧ H a = some (.tup vs) ∧ a ∉ own ∧ a ∉ res ∧ Reps ds vs
  | .frz ds, v => ∃ a o vs, v = .ref a ∧ H a = some (.frz o (.lst vs)) ∧ a ∉ own ∧ a ∉ res ∧ Reps ds vs
  | .dct ks ds, v => ∃ a kvs, v = .ref a ∧ H a = some (.dK kvs) ∧ a ∉ own ∧ a ∉ res ∧ ks = kvs.map (fun p => keyD p.1) ∧ Reps ds (kvs.map (·.2))
  | .m k, v => ∃ a, v = .ref a ∧ own[k]? = some a
  | .fn f, v => v = .ref (G.fa f)
  | .cl c, v => v = .ref (G.ca c)
  | .ty n, v => v = .ty n
def Reps : List D → List V → Prop
  | [], vs => vs = []
  | d :: ds, vs => ∃ v r, vs = v :: r ∧ Rep d v ∧ Reps ds r
end
/-- the cell at a -/
def ObR (a : Addr) : Ob → Prop
  | .lst ds => ∃ vs, H a = some (.lst vs) ∧ Reps G H own res ds vs
  | .dct ks ds => ∃ kvs, H a = some (.dK kvs) ∧ ks = kvs.map (fun p => keyD p.1) ∧ Reps G H own res ds (kvs.map (·.2))
  | .ndc ks ds => ∃ es, H a = some (NdO G a es) ∧ Reps G H own res ks (es.map fun e => V.ref e.2.1) ∧ nksD ks = some (es.map (·.1)) ∧ Reps G H own res ds (es.map (·.2.2))
end

/-- the world of a state: cells in order, apart from one another and from what is being made -/
structure Wd (G : Gc) (own res : List Addr) (S : Sto) (H : Hp) : Prop where
  len : own.length = S.length
  nod : own.Nodup
  dis : ∀ a, a ∈ own → a ∉ res
  cell : ∀ (k : Nat) (o : Ob) (a : Addr), S[k]? = some o → own[k]? = some a → ObR G H own res a o
  rest : ∀ a, a ∈ res → ∃ o, H a = some o ∧ ∀ ps, o ≠ .tbl ps
  tabs : LamX.Tabs G.T H

/-- from one state to a later one: what is no cell stays (but tables), cells are kept in order, new ones are new -/
structure Grow (own : List Addr) (H : Hp) (own' : List Addr) (H' : Hp) : Prop where
  pre : ∃ t, own' = own ++ t
  keep : ∀ a o, H a = some o → a ∉ own → (∀ ps, o ≠ .tbl ps) → H' a = some o
  new : ∀ a, a ∈ own' → a ∉ own → ∀ o, H a = some o → ∃ ps, o = .tbl ps
theorem Grow.refl (own : List Addr) (H : Hp) : Grow own H own H := ⟨⟨[], by simp⟩, fun _ o h _ _ => h, fun a h n => absurd h n⟩
section
variable {own own' o1 o2 o3 : List Addr} {H H' H1 H2 H3 : Hp}
theorem Grow.sub (g : Grow own H own' H') {a : Addr} (h : a ∈ own) : a ∈ own' := by
  obtain ⟨t, rfl⟩ := g.pre
  exact List.mem_append_left _ h
theorem Grow.at (g : Grow own H own' H') {k : Nat} {a : Addr} (h : own[k]? = some a) : own'[k]? = some a := by
  obtain ⟨t, rfl⟩ := g.pre
  obtain ⟨hk, _⟩ := List.getElem?_eq_some_iff.mp h
  rw [List.getElem?_append_left hk]
  exact h
theorem Grow.out (g : Grow own H own' H') {a : Addr} {o : HO} (h : H a = some o) (n : a ∉ own) (t : ∀ ps, o ≠ .tbl ps) : a ∉ own' := fun h' => by
  obtain ⟨ps, e⟩ := g.new a h' n o h
  exact t ps e
theorem Grow.stay (g : Grow own H own' H') {a : Addr} {o : HO} (h : H a = some o) (n : a ∉ own) (t : ∀ ps, o ≠ .tbl ps) : H' a = some o := g.keep a o h n t
theorem Grow.trans (g : Grow o1 H1 o2 H2) (g' : Grow o2 H2 o3 H3) : Grow o1 H1 o3 H3 := by
  refine ⟨?_, fun a o h n t => g'.keep a o (g.keep a o h n t) (g.out h n t) t, fun a h n o e => ?_⟩
  · obtain ⟨t, e⟩ := g.pre
    obtain ⟨t', e'⟩ := g'.pre
    exact ⟨t ++ t', by rw [e', e, List.append_assoc]⟩
  · by_cases h2 : a ∈ o2
    · exact g.new a h2 n o e
    · by_cases t : ∀ ps, o ≠ .tbl ps
      · exact g'.new a h h2 o (g.keep a o e n t)
      · exact Classical.byContradiction fun z => t fun ps q => z ⟨ps, q⟩
/-- a new thing, apart from the cells -/
theorem Grow.laid {p : Addr} {o : HO} (h : H p = none) (hn : p ∉ own) : Grow own H own (upd H p o) :=
  ⟨⟨[], by simp⟩, fun a u e _ _ => by rw [upd_ne (ne_of_none e h)]; exact e, fun a h n => absurd h n⟩
/-- a new cell -/
theorem Grow.cell {p : Addr} {o : HO} (h : H p = none) : Grow own H (own ++ [p]) (upd H p o) :=
  ⟨⟨[p], rfl⟩, fun a u e _ _ => by rw [upd_ne (ne_of_none e h)]; exact e, fun a ha n o e => by
    rcases List.mem_append.mp ha with z | z
    · exact absurd z n
    · rw [List.mem_singleton.mp z, h] at e; cases e⟩
/-- a cell written -/
theorem Grow.write {p : Addr} {o : HO} (h : p ∈ own) : Grow own H own (upd H p o) :=
  ⟨⟨[], by simp⟩, fun a u e n _ => by rw [upd_ne (fun z => n (by rw [z]; exact h))]; exact e, fun a h n => absurd h n⟩
end

section
variable {G : Gc} {H H' : Hp} {own own' res res' : List Addr}
mutual
/-- what stands for a tree stands for it later -/
theorem Rep.mono (k : ∀ a o, H a = some o → a ∉ own → a ∉ res → (∀ ps, o ≠ .tbl ps) → H' a = some o) (n : ∀ a o, H a = some o → a ∉ own → a ∉ res → (∀ ps, o ≠ .tbl ps) → a ∉ own') (r : ∀ a, a ∈ res' → a ∈ res ∨ H a = none) (c : ∀ (i : Nat) a, own[i]? = some a → own'[i]? = some a) :
    ∀ (d : D) (v : V), Rep G H own res d v → Rep G H' own' res' d v
  | .non, _, h | .bl _, _, h | .int _, _, h | .str _, _, h | .fn _, _, h | .cl _, _, h | .ty _, _, h => h
  | .lst ds, v, h => by
    obtain ⟨a, vs, e, h1, h2, h3, h4⟩ := h
    exact ⟨a, vs, e, k a _ h1 h2 h3 (fun ps z => by cases z), n a _ h1 h2 h3 (fun ps z => by cases z), fun z => (r a z).elim h3 (fun y => by rw [h1] at y; cases y), Reps.mono k n r c ds vs h4⟩
  | .tup ds, v, h => by
    obtain ⟨a, vs, e, h1, h2, h3, h4⟩ := h
    exact ⟨a, vs, e, k a _ h1 h2 h3 (fun ps z => by cases z), n a _ h1 h2 h3 (fun ps z => by cases z), fun z => (r a z).elim h3 (fun y => by rw [h1] at y; cases y), Reps.mono k n r c ds vs h4⟩
  | .frz ds, v, h => by
    obtain ⟨a, o, vs, e, h1, h2, h3, h4⟩ := h
    exact ⟨a, o, vs, e, k a _ h1 h2 h3 (fun ps z => by cases z), n a _ h1 h2 h3 (fun ps z => by cases z), fun z => (r a z).elim h3 (fun y => by rw [h1] at y; cases y), Reps.mono k n r c ds vs h4⟩
  | .dct ks ds, v, h => by
    obtain ⟨a, kvs, e, h1, h2, h3, h5, h4⟩ := h
    exact ⟨a, kvs, e, k a _ h1 h2 h3 (fun ps z => by cases z), n a _ h1 h2 h3 (fun ps z => by cases z), fun z => (r a z).elim h3 (fun y => by rw [h1] at y; cases y), h5, Reps.mono k n r c ds _ h4⟩
  | .m i, v, h => by
    obtain ⟨a, e, h1⟩ := h
    exact ⟨a, e, c i a h1⟩
theorem Reps.mono (k : ∀ a o, H a = some o → a ∉ own → a ∉ res → (∀ ps, o ≠ .tbl ps) → H' a = some o) (n : ∀ a o, H a = some o → a ∉ own → a ∉ res → (∀ ps, o ≠ .tbl ps) → a ∉ own') (r : ∀ a, a ∈ res' → a ∈ res ∨ H a = none) (c : ∀ (i : Nat) a, own[i]? = some a → own'[i]? = some a) :
    ∀ (ds : List D) (vs : List V), Reps G H own res ds vs → Reps G H' own' res' ds vs
  | [], _, h => h
  | d :: ds, vs, h => by
    obtain ⟨v, w, e, h1, h2⟩ := h
    exact ⟨v, w, e, Rep.mono k n r c d v h1, Reps.mono k n r c ds w h2⟩
end
theorem Rep.grow (g : Grow own H own' H') {d : D} {v : V} (h : Rep G H own res d v) : Rep G H' own' res d v :=
  Rep.mono (fun a o e n _ t => g.stay e n t) (fun a o e n _ t => g.out e n t) (fun a h => .inl h) (fun i a => g.at) d v h
theorem Reps.grow (g : Grow own H own' H') {d : List D} {v : List V} (h : Reps G H own res d v) : Reps G H' own' res d v :=
  Reps.mono (fun a o e n _ t => g.stay e n t) (fun a o e n _ t => g.out e n t) (fun a h => .inl h) (fun i a => g.at) d v h
theorem Reps.length : ∀ {ds : List D} {vs : List V}, Reps G H own res ds vs → ds.length = vs.length
  | [], _, h => by
    have h : _ = [] := h
    rw [h]; rfl
  | _ :: _, _, h => by
    obtain ⟨v, w, e, _, h2⟩ := h
    rw [e, List.length_cons, List.length_cons, Reps.length h2]
theorem Reps.get : ∀ {ds : List D} {vs : List V} {i : Nat} {d : D}, Reps G H own res ds vs → ds[i]? = some d → ∃ v, vs[i]? = some v ∧ Rep G H own res d v
  | [], _, _, _, _, e => by simp at e
  | _ :: _, _, 0, d, h, e => by
    obtain ⟨v, w, rfl, h1, _⟩ := h
    simp at e
    exact ⟨v, rfl, e ▸ h1⟩
  | _ :: _, _, i + 1, d, h, e => by
    obtain ⟨v, w, rfl, _, h2⟩ := h
    obtain ⟨u, a, b⟩ := Reps.get (i := i) h2 (by simpa using e)
    exact ⟨u, by simpa using a, b⟩
theorem Reps.get' : ∀ {ds : List D} {vs : List V} {i : Nat} {v : V}, Reps G H own res ds vs → vs[i]? = some v → ∃ d, ds[i]? = some d ∧ Rep G H own res d v := fun {ds vs i v} h e => by
  have hl := h.length
  obtain ⟨hi, _⟩ := List.getElem?_eq_some_iff.mp e
  obtain ⟨u, a, b⟩ := h.get (i := i) (d := ds[i]) (by simp [show i < ds.length by omega])
  rw [a] at e
  exact ⟨_, by simp [show i < ds.length by omega], (Option.some.inj e) ▸ b⟩
theorem Reps.append : ∀ {ds es : List D} {vs us : List V}, Reps G H own res ds vs → Reps G H own res es us → Reps G H own res (ds ++ es) (vs ++ us)
  | [], _, _, _, h, h' => by
    have h : _ = [] := h
    rw [h]
    exact h'
  | _ :: _, _, _, _, h, h' => by
    obtain ⟨v, w, rfl, h1, h2⟩ := h
    exact ⟨v, w ++ _, rfl, h1, Reps.append h2 h'⟩
theorem Reps.take : ∀ {ds : List D} {vs : List V} (n : Nat), Reps G H own res ds vs → Reps G H own res (ds.take n) (vs.take n)
  | _, _, 0, _ => by simp [Reps]
  | [], _, _ + 1, h => by
    have h : _ = [] := h
    rw [h]; simp [Reps]
  | _ :: _, _, n + 1, h => by
    obtain ⟨v, w, rfl, h1, h2⟩ := h
    exact ⟨v, w.take n, rfl, h1, Reps.take n h2⟩
theorem Reps.drop : ∀ {ds : List D} {vs : List V} (n : Nat), Reps G H own res ds vs → Reps G H own res (ds.drop n) (vs.drop n)
  | _, _, 0, h => h
  | [], _, _ + 1, h => by
    have h : _ = [] := h
    rw [h]; simp [Reps]
  | _ :: _, _, n + 1, h => by
    obtain ⟨v, w, rfl, h1, h2⟩ := h
    exact Reps.drop n h2
theorem Reps.one {d : D} {v : V} (h : Rep G H own res d v) : Reps G H own res [d] [v] := ⟨v, [], rfl, h, rfl⟩
theorem Reps.nil : Reps G H own res [] [] := rfl
theorem Reps.cons {d : D} {v : V} {ds : List D} {vs : List V} (h : Rep G H own res d v) (t : Reps G H own res ds vs) : Reps G H own res (d :: ds) (v :: vs) := ⟨v, vs, rfl, h, t⟩
theorem Reps.set {d : D} {v : V} (h : Rep G H own res d v) : ∀ {ds : List D} {vs : List V} (i : Nat), Reps G H own res ds vs → Reps G H own res (ds.set i d) (vs.set i v)
  | [], _, _, t => by
    have t : _ = [] := t
    rw [t]; simp [Reps]
  | _ :: _, _, 0, t => by
    obtain ⟨u, w, rfl, _, h2⟩ := t
    exact ⟨v, w, rfl, h, h2⟩
  | _ :: _, _, i + 1, t => by
    obtain ⟨u, w, rfl, h1, h2⟩ := t
    exact ⟨u, w.set i v, rfl, h1, Reps.set h i h2⟩
theorem Reps.eraseIdx : ∀ {ds : List D} {vs : List V} (i : Nat), Reps G H own res ds vs → Reps G H own res (ds.eraseIdx i) (vs.eraseIdx i)
  | [], _, _, t => by
    have t : _ = [] := t
    rw [t]; simp [Reps]
  | _ :: _, _, 0, t => by
    obtain ⟨u, w, rfl, _, h2⟩ := t
    exact h2
  | _ :: _, _, i + 1, t => by
    obtain ⟨u, w, rfl, h1, h2⟩ := t
    exact ⟨u, w.eraseIdx i, rfl, h1, Reps.eraseIdx i h2⟩
theorem ObR.mono (k : ∀ a o, H a = some o → a ∉ own → a ∉ res → (∀ ps, o ≠ .tbl ps) → H' a = some o) (n : ∀ a o, H a = some o → a ∉ own → a ∉ res → (∀ ps, o ≠ .tbl ps) → a ∉ own') (r : ∀ a, a ∈ res' → a ∈ res ∨ H a = none) (c : ∀ (i : Nat) a, own[i]? = some a → own'[i]? = some a)
    {a : Addr} (ha : H' a = H a) : ∀ {o : Ob}, ObR G H own res a o → ObR G H' own' res' a o
  | .lst ds, h => by
    obtain ⟨vs, h1, h2⟩ := h
    exact ⟨vs, ha.trans h1, Reps.mono k n r c _ _ h2⟩
  | .dct ks ds, h => by
    obtain ⟨kvs, h1, h3, h2⟩ := h
    exact ⟨kvs, ha.trans h1, h3, Reps.mono k n r c _ _ h2⟩
  | .ndc ks ds, h => by
    obtain ⟨es, h1, h2, h3, h4⟩ := h
    exact ⟨es, ha.trans h1, Reps.mono k n r c _ _ h2, h3, Reps.mono k n r c _ _ h4⟩
/-- a cell's object is there, and is no table -/
theorem ObR.there {a : Addr} : ∀ {o : Ob}, ObR G H own res a o → ∃ u, H a = some u ∧ ∀ ps, u ≠ .tbl ps
  | .lst ds, ⟨vs, h1, _⟩ => ⟨_, h1, fun ps z => by cases z⟩
  | .dct ks ds, ⟨kvs, h1, _⟩ => ⟨_, h1, fun ps z => by cases z⟩
  | .ndc ks ds, ⟨es, h1, _⟩ => ⟨_, h1, fun ps z => by cases z⟩
theorem Wd.own_at {S : Sto} (w : Wd G own res S H) {a : Addr} (h : a ∈ own) : ∃ (k : Nat) (o : Ob), own[k]? = some a ∧ S[k]? = some o := by
  obtain ⟨k, hk, e⟩ := List.mem_iff_getElem.mp h
  have hl := w.len
  exact ⟨k, S[k]'(by omega), by simp [hk, e], by simp [show k < S.length by omega]⟩
theorem Wd.own_there {S : Sto} (w : Wd G own res S H) {a : Addr} (h : a ∈ own) : ∃ u, H a = some u ∧ ∀ ps, u ≠ .tbl ps := by
  obtain ⟨k, o, h1, h2⟩ := w.own_at h
  exact (w.cell k o a h2 h1).there
theorem Wd.fresh {S : Sto} (w : Wd G own res S H) {p : Addr} (h : H p = none) : p ∉ own ∧ p ∉ res := by
  refine ⟨fun z => ?_, fun z => ?_⟩
  · obtain ⟨u, e, _⟩ := w.own_there z
    rw [h] at e; cases e
  · obtain ⟨u, e, _⟩ := w.rest p z
    rw [h] at e; cases e
/-- a new thing laid beside the cells -/
theorem Wd.laid {S : Sto} (w : Wd G own res S H) {p : Addr} {o : HO} (h : H p = none) : Wd G own res S (upd H p o) := by
  have hm : ∀ a u, H a = some u → upd H p o a = some u := fun a u e => by rw [upd_ne (ne_of_none e h)]; exact e
  refine ⟨w.len, w.nod, w.dis, fun k ob a e1 e2 => ?_, fun a ha => ?_, w.tabs.ext hm⟩
  · have c := w.cell k ob a e1 e2
    obtain ⟨u, hu, _⟩ := c.there
    exact c.mono (fun a o e _ _ _ => hm a o e) (fun a o e n _ _ => n) (fun a z => .inl z) (fun i a e => e) (by rw [upd_ne (ne_of_none hu h)])
  · obtain ⟨u, e, t⟩ := w.rest a ha
    exact ⟨u, hm a u e, t⟩
theorem Rep.laid {d : D} {v : V} (r : Rep G H own res d v) {p : Addr} {o : HO} (h : H p = none) (n : p ∉ own) : Rep G (upd H p o) own res d v := r.grow (Grow.laid h n)
theorem Reps.laid {d : List D} {v : List V} (r : Reps G H own res d v) {p : Addr} {o : HO} (h : H p = none) (n : p ∉ own) : Reps G (upd H p o) own res d v := r.grow (Grow.laid h n)
/-- a new cell -/
theorem Wd.push {S : Sto} (w : Wd G own res S H) {p : Addr} {o : HO} {ob : Ob} (h : H p = none) (c : ObR G (upd H p o) (own ++ [p]) res p ob) : Wd G (own ++ [p]) res (S ++ [ob]) (upd H p o) := by
  have hm : ∀ a u, H a = some u → upd H p o a = some u := fun a u e => by rw [upd_ne (ne_of_none e h)]; exact e
  have np := w.fresh h
  have g : Grow own H (own ++ [p]) (upd H p o) := Grow.cell h
  refine ⟨by simp [w.len], ?_, fun a ha => ?_, fun k ob' a e1 e2 => ?_, fun a ha => ?_, w.tabs.ext hm⟩
  · refine List.nodup_append.mpr ⟨w.nod, by simp, fun a ha b hb => ?_⟩
    rw [List.mem_singleton.mp hb]
    rintro rfl
    exact np.1 ha
  · rcases List.mem_append.mp ha with z | z
    · exact w.dis a z
    · rw [List.mem_singleton.mp z]; exact np.2
  · by_cases hk : k < S.length
    · rw [List.getElem?_append_left hk] at e1
      rw [List.getElem?_append_left (by rw [w.len]; exact hk)] at e2
      have c := w.cell k ob' a e1 e2
      obtain ⟨u, hu, _⟩ := c.there
      exact c.mono (fun a o e n _ t => g.stay e n t) (fun a o e n _ t => g.out e n t) (fun a z => .inl z) (fun i a => g.at) (by rw [upd_ne (ne_of_none hu h)])
    · have hk2 : k = S.length := by
        have := (List.getElem?_eq_some_iff.mp e1).1
        simp at this
        omega
      subst hk2
      rw [List.getElem?_append_right (Nat.le_refl _)] at e1
      rw [← w.len, List.getElem?_append_right (Nat.le_refl _)] at e2
      simp at e1 e2
      subst e1 e2
      exact c
  · obtain ⟨u, e, t⟩ := w.rest a ha
    exact ⟨u, hm a u e, t⟩
/-- a dict is no code object -/
theorem nd_code {a : Addr} {es : List (NestedKey × Addr × V)} {q : Str} (e : NdO G a es = LamX.CodeO a q) : False := by
  unfold NdO LamX.CodeO at e
  injection e with e
  let ob : Obj := { cls := .none, data := .fields #[.none, .str q 0] }
  let h0 : Heap := ⟨Array.replicate (a + 1) ob, default⟩
  have g : h0.get? a = some ob := by
    unfold Heap.get?
    simp [h0, ob]
  have y : (fun h : Heap => ∃ (oc : Obj) (vs : Array Value) (t : Tok), h.get? a = some oc ∧ oc.data = .fields vs ∧ vs[1]? = some (.str q t)) h0 := ⟨ob, _, 0, g, rfl, rfl⟩
  rw [← e] at y
  obtain ⟨_, _, _, us, o, arr, ep, _, g2, _, d, _⟩ := y
  rw [g] at g2
  rw [← Option.some.inj g2] at d
  cases d
/-- a cell written -/
theorem Wd.write {S : Sto} (w : Wd G own res S H) {k : Nat} {p : Addr} {o : HO} {ob : Ob} (h : own[k]? = some p) (ht : ∀ ps, o ≠ .tbl ps) (c : ObR G (upd H p o) own res p ob) : Wd G own res (S.set k ob) (upd H p o) := by
  have hp : p ∈ own := List.mem_of_getElem? h
  have g : Grow own H own (upd H p o) := Grow.write hp
  have hkS : k < S.length := by
    have := (List.getElem?_eq_some_iff.mp h).1
    rw [w.len] at this
    exact this
  have ntb : ∀ b u, b ∉ own → H b = some u → upd H p o b = some u := fun b u n e => by rw [upd_ne (fun z => n (by rw [z]; exact hp))]; exact e
  refine ⟨by simp [w.len], w.nod, w.dis, fun j ob' a e1 e2 => ?_, fun a ha => ?_, fun q hq => ?_⟩
  · by_cases hj : j = k
    · subst hj
      rw [List.getElem?_set_self hkS] at e1
      rw [h] at e2
      cases e1; cases e2
      exact c
    · rw [List.getElem?_set_ne (Ne.symm hj)] at e1
      have ne : a ≠ p := fun z => by
        subst z
        obtain ⟨h1, h2⟩ := List.getElem?_eq_some_iff.mp e2
        obtain ⟨h3, h4⟩ := List.getElem?_eq_some_iff.mp h
        exact hj ((List.getElem_inj w.nod).mp (h2.trans h4.symm))
      exact (w.cell j ob' a e1 e2).mono (fun a o e n _ t => g.stay e n t) (fun a o e n _ t => g.out e n t) (fun a z => .inl z) (fun i a => g.at) (by rw [upd_ne ne])
  · obtain ⟨u, e, t⟩ := w.rest a ha
    exact ⟨u, ntb a u (fun z => w.dis a z ha) e, t⟩
  · obtain ⟨ps, h1, h2, h3⟩ := w.tabs q hq
    have nt : ∀ b u, H b = some u → (b ∈ own → False) → upd H p o b = some u := fun b u e n => ntb b u n e
    have nown : ∀ b, (∃ ps, H b = some (.tbl ps)) → b ∉ own := fun b ⟨ps, e⟩ z => by
      obtain ⟨u, e', n⟩ := w.own_there z
      rw [e] at e'
      exact n ps (Option.some.inj e').symm
    refine ⟨ps, nt _ _ h1 (nown _ ⟨ps, h1⟩), h2, fun pos cv hc => ?_⟩
    obtain ⟨c0, e1, e2⟩ := h3 pos cv hc
    refine ⟨c0, e1, ?_⟩
    by_cases hz : c0 ∈ own
    · obtain ⟨kk, oo, a1, a2⟩ := w.own_at hz
      have cc := w.cell kk oo c0 a2 a1
      exact absurd e2 (by
        cases oo with
        | lst ds =>
          obtain ⟨vs, q1, _⟩ := cc
          rw [q1]; intro z; unfold LamX.CodeO at z; cases z
        | dct ks ds =>
          obtain ⟨vs, q1, _⟩ := cc
          rw [q1]; intro z; unfold LamX.CodeO at z; cases z
        | ndc ks ds =>
          obtain ⟨es, q1, _⟩ := cc
          intro z
          rw [q1] at z
          exact nd_code (Option.some.inj z))
    · exact ntb _ _ hz e2
end
end Ev
namespace Ev
open L2 PySem PySem.Spec PyProof.Rows

/-! ## readings by answers -/
/-- the local names' values -/
structure EnvR (G : Gc) (H : Hp) (own res : List Addr) (σ : L2.St) (ρ : Env) : Prop where
  le : ρ.length ≤ σ.length
  at_ : ∀ (i : Nat) (d : D), ρ[i]? = some (some d) → ∃ v, σ[i]? = some (some v) ∧ Rep G H own res d v
/-- an error: its class, its fields by names -/
def ExR (G : Gc) (c : Nat) (as : List D) (cls : Value) (dx : Option Addr) (H : Hp) (own res : List Addr) : Prop :=
  cls = .ref (G.ca c) ∧ ∃ (d : Addr) (fs : List (Str × V)), dx = some d ∧ H d = some (.xd fs) ∧ d ∉ own ∧ ∀ (i : Nat) (n : Str) (a : D), (G.xf c)[i]? = some n → as[i]? = some a → ∃ v, fs.lookup n = some v ∧ Rep G H own res a v
section
variable (G : Gc) {α β : Type}
abbrev Rel (α β : Type) := Hp → List Addr → List Addr → α → β → Prop
/-- what an answer asks of what is wanted behind -/
def Good (rel : Rel α β) (own res : List Addr) (H : Hp) (Q : β → Hp → Prop) (E : XK) : R α → Prop
  | .ok a S => ∀ own' H' x, Grow own H own' H' → Wd G own' res S H' → rel H' own' res a x → Q x H'
  | .ex c as S => ∀ own' H' cls dx, Grow own H own' H' → Wd G own' res S H' → ExR G c as cls dx H' own' res → E cls dx H'
  | .bad => False
/-- the reading of what is answered from the names and the cells -/
def tG (rel : Rel α β) (E : XK) (f : Env → Sto → R α) : L2.St → Hp → (β → Hp → Prop) → Prop := fun σ H Q =>
  ∃ own res S ρ, Wd G own res S H ∧ EnvR G H own res σ ρ ∧ Good G rel own res H Q E (f ρ S)
abbrev relV : Rel D V := fun H own res d v => Rep G H own res d v
abbrev relL : Rel (List D) (List V) := fun H own res d v => Reps G H own res d v
abbrev relB : Rel Bool Bool := fun _ _ _ a b => a = b
abbrev relO : Rel (Option Int) (Option Int) := fun _ _ _ a b => a = b
end
abbrev Ex := Env → Sto → R D
abbrev ExL := Env → Sto → R (List D)
abbrev ExB := Env → Sto → R Bool
abbrev ExO := Env → Sto → R (Option Int)
section
variable {G : Gc} {α β γ δ : Type} {H H1 : Hp} {own own1 res : List Addr} {S : Sto} {E : XK}
theorem EnvR.grow {σ : L2.St} {ρ : Env} {own' : List Addr} {H' : Hp} (g : Grow own H own' H') (h : EnvR G H own res σ ρ) : EnvR G H' own' res σ ρ := ⟨h.le, fun i d e => by
  obtain ⟨v, a, b⟩ := h.at_ i d e
  exact ⟨v, a, b.grow g⟩⟩
theorem EnvR.set {σ : L2.St} {ρ : Env} {i : Nat} {d : D} {v : V} (h : EnvR G H own res σ ρ) (r : Rep G H own res d v) : EnvR G H own res (σ.set i (some v)) (ρ.set i (some d)) := by
  refine ⟨by simpa using h.le, fun j e hj => ?_⟩
  by_cases e2 : i = j
  · subst e2
    by_cases hlt : i < ρ.length
    · rw [List.getElem?_set_self hlt] at hj
      cases hj
      exact ⟨v, by rw [List.getElem?_set_self (Nat.lt_of_lt_of_le hlt h.le)], r⟩
    · rw [List.getElem?_eq_none (by simp; omega)] at hj
      cases hj
  · rw [List.getElem?_set_ne e2] at hj
    obtain ⟨u, a, b⟩ := h.at_ j e hj
    exact ⟨u, by rw [List.getElem?_set_ne e2]; exact a, b⟩
theorem Good.grow {rel : Rel α β} {Q : β → Hp → Prop} (g : Grow own H own1 H1) : ∀ {r : R α}, Good G rel own res H Q E r → Good G rel own1 res H1 Q E r
  | .ok _ _, h => fun o2 H2 x g2 w r => h o2 H2 x (g.trans g2) w r
  | .ex _ _ _, h => fun o2 H2 c d g2 w r => h o2 H2 c d (g.trans g2) w r
  | .bad, h => h
theorem Good.imp {rel : Rel α β} {Q Q' : β → Hp → Prop} (hq : ∀ x H, Q x H → Q' x H) : ∀ {r : R α}, Good G rel own res H Q E r → Good G rel own res H Q' E r
  | .ok _ _, h => fun o2 H2 x g2 w r => hq _ _ (h o2 H2 x g2 w r)
  | .ex _ _ _, h => h
  | .bad, h => h
/-- one part, then the rest -/
theorem Good.bind {r1 : Rel α β} {r2 : Rel γ δ} {Q : δ → Hp → Prop} {g : α → Sto → R γ} : ∀ {r : R α}, Good G r2 own res H Q E (r.bind g) →
    Good G r1 own res H (fun x H1 => ∃ own1 S1 a, Grow own H own1 H1 ∧ Wd G own1 res S1 H1 ∧ r1 H1 own1 res a x ∧ Good G r2 own1 res H1 Q E (g a S1)) E r
  | .ok a S, h => fun o2 H2 x g2 w r => ⟨o2, S, a, g2, w, r, Good.grow g2 h⟩
  | .ex _ _ _, h => h
  | .bad, h => h
/-- the answer is there: new things apart, no cell changed -/
theorem Good.here {rel : Rel α β} {Q : β → Hp → Prop} {a : α} {x : β} (w : Wd G own res S H) (r : rel H own res a x) (h : Good G rel own res H Q E (.ok a S)) : Q x H := h own H x (Grow.refl own H) w r
end
theorem pe_imp {X : Cx} {e : Expr} {t t' : TE} (h : PE X e t) (i : ∀ σ H Q, t' σ H Q → t σ H Q) : PE X e t' := ⟨fun pins s σ H Q I hw => h.run pins s σ H Q I (i σ H Q hw)⟩
theorem pt_imp {X : Cx} {e : Expr} {t t' : TT} (h : PT X e t) (i : ∀ σ H Q, t' σ H Q → t σ H Q) : PT X e t' := ⟨fun pins s σ H Q I hw => h.run pins s σ H Q I (i σ H Q hw)⟩
theorem pw_imp {X : Cx} {e : Expr} {t t' : TT} (h : PW X e t) (i : ∀ σ H Q, t' σ H Q → t σ H Q) : PW X e t' := ⟨fun wh pins s σ H Q I hw => h.run wh pins s σ H Q I (i σ H Q hw)⟩
theorem pa_imp {X : Cx} {e : List Expr} {t t' : TA} (h : PA X e t) (i : ∀ σ H Q, t' σ H Q → t σ H Q) : PA X e t' := ⟨fun pos pins s σ H Q I hw => h.run pos pins s σ H Q I (i σ H Q hw)⟩
theorem po_imp {X : Cx} {e : Option Expr} {t t' : TO} (h : PO X e t) (i : ∀ σ H Q, t' σ H Q → t σ H Q) : PO X e t' := ⟨fun pins s σ H Q I hw => h.run pins s σ H Q I (i σ H Q hw)⟩

/-! ## what is answered -/
def cst (d : D) : Ex := fun _ S => .ok d S
def vrb (i : Nat) : Ex := fun ρ S => match ρ[i]? with
  | some (some d) => .ok d S
  | _ => .bad
def un1 (g : D → Sto → R D) (f : Ex) : Ex := fun ρ S => (f ρ S).bind g
def bi2 (g : D → D → Sto → R D) (f f' : Ex) : Ex := fun ρ S => (f ρ S).bind fun a S1 => (f' ρ S1).bind fun b S2 => g a b S2
def unB (g : D → Sto → R Bool) (f : Ex) : ExB := fun ρ S => (f ρ S).bind g
def arN : ExL := fun _ S => .ok [] S
def arC (f : Ex) (r : ExL) : ExL := fun ρ S => (f ρ S).bind fun a S1 => (r ρ S1).bind fun as S2 => .ok (a :: as) S2
def ofL (g : List D → Sto → R D) (f : ExL) : Ex := fun ρ S => (f ρ S).bind g
/-- the bool that a value is -/
def asB : D → Sto → R Bool
  | .bl b, S => .ok b S
  | _, _ => .bad
def ifE (c : ExB) (a b : Ex) : Ex := fun ρ S => (c ρ S).bind fun t S1 => if t = true then a ρ S1 else b ρ S1
def andB (a b : ExB) : ExB := fun ρ S => (a ρ S).bind fun t S1 => if t = true then b ρ S1 else .ok false S1
def orB (a b : ExB) : ExB := fun ρ S => (a ρ S).bind fun t S1 => if t = true then .ok true S1 else b ρ S1
def notB (a : ExB) : ExB := fun ρ S => (a ρ S).bind fun t S1 => .ok (!t) S1
def andV (a b : Ex) : Ex := fun ρ S => (a ρ S).bind fun d S1 => match d with
  | .bl true => b ρ S1
  | .bl false => .ok (.bl false) S1
  | _ => .bad
def orV (a b : Ex) : Ex := fun ρ S => (a ρ S).bind fun d S1 => match d with
  | .bl false => b ρ S1
  | .bl true => .ok (.bl true) S1
  | _ => .bad
def notV : D → Sto → R D
  | .bl b, S => .ok (.bl (!b)) S
  | _, _ => .bad
/-- the items of a list, a tree's or a cell's; of a tuple -/
def lstOf (S : Sto) : D → Option (List D)
  | .lst xs => some xs
  | .m k => match S[k]? with
    | some (.lst xs) => some xs
    | _ => none
  | _ => none
def seqOf (S : Sto) : D → Option (List D)
  | .tup xs => some xs
  | d => lstOf S d

section
variable {X : Cx} {G : Gc} {E : XK} {a b c e : Expr} {fa fb fc : Ex} {pos : Pos} {H : Hp} {own res : List Addr} {S : Sto}
theorem Rep.lstOf (w : Wd G own res S H) {d : D} {v : V} (r : Rep G H own res d v) {ds : List D} (h : lstOf S d = some ds) : ∃ l vs, v = .ref l ∧ H l = some (.lst vs) ∧ Reps G H own res ds vs := by
  cases d with
  | lst xs =>
    obtain ⟨l, vs, e, h1, _, _, h4⟩ := r
    cases h
    exact ⟨l, vs, e, h1, h4⟩
  | m k =>
    obtain ⟨l, e, h1⟩ := r
    have h : (match S[k]? with | some (.lst xs) => some xs | _ => none) = some ds := h
    cases hk : S[k]? with
    | none => rw [hk] at h; cases h
    | some o =>
      rw [hk] at h
      cases o with
      | lst xs =>
        cases h
        obtain ⟨vs, h2, h3⟩ := w.cell k _ l hk h1
        exact ⟨l, vs, e, h2, h3⟩
      | dct _ _ => cases h
      | ndc _ _ => cases h
  | _ => cases h
theorem Rep.tupOf {d : List D} {v : V} (r : Rep G H own res (.tup d) v) : ∃ l vs, v = .ref l ∧ H l = some (.tup vs) ∧ Reps G H own res d vs := by
  obtain ⟨l, vs, e, h1, _, _, h4⟩ := r
  exact ⟨l, vs, e, h1, h4⟩
theorem Rep.seqOf (w : Wd G own res S H) {d : D} {v : V} (r : Rep G H own res d v) {ds : List D} (h : seqOf S d = some ds) : ∃ l vs, v = .ref l ∧ (SqL X.K H l vs ∨ SqT X.K H l vs) ∧ Reps G H own res ds vs := by
  cases d with
  | tup xs =>
    cases h
    obtain ⟨l, vs, e, h1, h4⟩ := r.tupOf
    exact ⟨l, vs, e, .inr (SqT.of h1), h4⟩
  | _ =>
    obtain ⟨l, vs, e, h1, h4⟩ := r.lstOf w h
    exact ⟨l, vs, e, .inl (SqL.of h1), h4⟩

/-! ### names, constants -/
theorem e_cst {d : D} {v : V} (h : PE X e (tC v)) (r : ∀ H own res, Rep G H own res d v) : PE X e (tG G (relV G) E (cst d)) :=
  pe_imp h fun σ H Q ⟨own, res, S, ρ, w, en, q⟩ => q.here w (r _ _ _)
theorem e_vrb {i : Nat} (h : PE X e (tVar i)) : PE X e (tG G (relV G) E (vrb i)) :=
  pe_imp h fun σ H Q ⟨own, res, S, ρ, w, en, q⟩ => by
    unfold vrb at q
    cases hi : ρ[i]? with
    | none => rw [hi] at q; exact q.elim
    | some o =>
      cases o with
      | none => rw [hi] at q; exact q.elim
      | some d =>
        rw [hi] at q
        obtain ⟨v, h1, r⟩ := en.at_ i d hi
        exact ⟨v, h1, q.here w r⟩
/-! ### one part, two parts -/
theorem t_un {r : V → Hp → VK → Prop} {g : D → Sto → R D} (hp : ∀ own res S H x d Q, Wd G own res S H → Rep G H own res d x → Good G (relV G) own res H Q E (g d S) → r x H Q) {σ : L2.St} {H : Hp} {Q : VK}
    (h : tG G (relV G) E (un1 g fa) σ H Q) : tUn r (tG G (relV G) E fa) σ H Q := by
  obtain ⟨own, res, S, ρ, w, en, q⟩ := h
  refine ⟨own, res, S, ρ, w, en, (Good.bind (r1 := relV G) q).imp fun x H1 ⟨own1, S1, d, g1, w1, r1, q1⟩ => ?_⟩
  exact hp own1 res S1 H1 x d Q w1 r1 q1
theorem t_bi {r : R2} {g : D → D → Sto → R D} (hp : ∀ own res S H x y d e Q, Wd G own res S H → Rep G H own res d x → Rep G H own res e y → Good G (relV G) own res H Q E (g d e S) → r x y H Q) {σ : L2.St} {H : Hp} {Q : VK}
    (h : tG G (relV G) E (bi2 g fa fb) σ H Q) : tOp r (tG G (relV G) E fa) (tG G (relV G) E fb) σ H Q := by
  obtain ⟨own, res, S, ρ, w, en, q⟩ := h
  refine ⟨own, res, S, ρ, w, en, (Good.bind (r1 := relV G) q).imp fun x H1 ⟨own1, S1, d, g1, w1, r1, q1⟩ => ?_⟩
  refine ⟨own1, res, S1, ρ, w1, en.grow g1, (Good.bind (r1 := relV G) q1).imp fun y H2 ⟨own2, S2, d2, g2, w2, r2, q2⟩ => ?_⟩
  exact hp own2 res S2 H2 x y d d2 Q w2 (r1.grow g2) r2 q2
theorem e_bin {op : Operator} {r : R2} {g : D → D → Sto → R D} (ho : OpR X (binaryOp op) r) (hp : ∀ own res S H x y d e Q, Wd G own res S H → Rep G H own res d x → Rep G H own res e y → Good G (relV G) own res H Q E (g d e S) → r x y H Q)
    (ha : PE X a (tG G (relV G) E fa)) (hb : PE X b (tG G (relV G) E fb)) : PE X (.BinOp a op b pos) (tG G (relV G) E (bi2 g fa fb)) := pe_imp (pe_op ho ha hb) fun _ _ _ => t_bi hp
theorem e_una {op : UnaryOp} {r : V → Hp → VK → Prop} {g : D → Sto → R D} (ho : UnR X (unaryOp op) r) (hp : ∀ own res S H x d Q, Wd G own res S H → Rep G H own res d x → Good G (relV G) own res H Q E (g d S) → r x H Q)
    (ha : PE X a (tG G (relV G) E fa)) : PE X (.UnaryOp op a pos) (tG G (relV G) E (un1 g fa)) := pe_imp (pe_un ho ha) fun _ _ _ => t_un hp
theorem e_cmp {op : CmpOp} {r : R2} {g : D → D → Sto → R D} (ho : OpR X (compareOp op) r) (hp : ∀ own res S H x y d e Q, Wd G own res S H → Rep G H own res d x → Rep G H own res e y → Good G (relV G) own res H Q E (g d e S) → r x y H Q)
    (ha : PE X a (tG G (relV G) E fa)) (hb : PE X b (tG G (relV G) E fb)) (hm : behindInMarks op b = false) : PE X (.Compare a [op] [b] pos) (tG G (relV G) E (bi2 g fa fb)) := pe_imp (pe_cmpR ho ha hb hm) fun _ _ _ => t_bi hp
/-! ### tests -/
theorem t_asB {σ : L2.St} {H : Hp} {Q : Bool → Hp → Prop} (h : tG G relB E (unB asB fa) σ H Q) : tG G (relV G) E fa σ H fun x H1 => ∃ k, x = .bl k ∧ Q k H1 := by
  obtain ⟨own, res, S, ρ, w, en, q⟩ := h
  refine ⟨own, res, S, ρ, w, en, (Good.bind (r1 := relV G) q).imp fun x H1 ⟨own1, S1, d, g1, w1, r1, q1⟩ => ?_⟩
  cases d with
  | bl k =>
    cases r1
    exact ⟨k, rfl, q1.here w1 rfl⟩
  | _ => exact q1.elim
/-- a test whose value is a bool -/
theorem b_val (h : PE X a (tG G (relV G) E fa)) (he : ∀ whole, isTrue a X.env whole = (do let v ← whole; standAt a.pos; holding [v] (truthy v))) : PT X a (tG G relB E (unB asB fa)) :=
  pt_imp (pt_val h he) fun _ _ _ => t_asB
theorem b_cmp {op : CmpOp} {r : R2} {g : D → D → Sto → R D} (ho : OpR X (compareOp op) r) (hp : ∀ own res S H x y d e Q, Wd G own res S H → Rep G H own res d x → Rep G H own res e y → Good G (relV G) own res H Q E (g d e S) → r x y H Q)
    (ha : PE X a (tG G (relV G) E fa)) (hb : PE X b (tG G (relV G) E fb)) (hm : behindInMarks op b = false) : PT X (.Compare a [op] [b] pos) (tG G relB E (unB asB (bi2 g fa fb))) :=
  pt_imp (pt_cmpR ho ha hb hm) fun _ _ _ h => t_bi hp (t_asB h)
theorem t_andB {c d : ExB} {σ : L2.St} {H : Hp} {Q : Bool → Hp → Prop} (h : tG G relB E (andB c d) σ H Q) : tAnd (tG G relB E c) (tG G relB E d) σ H Q := by
  obtain ⟨own, res, S, ρ, w, en, q⟩ := h
  refine ⟨own, res, S, ρ, w, en, (Good.bind (r1 := relB) q).imp fun x H1 ⟨own1, S1, d, g1, w1, r1, q1⟩ => ?_⟩
  cases r1
  cases x with
  | true => exact ⟨own1, res, S1, ρ, w1, en.grow g1, q1⟩
  | false => exact q1.here w1 rfl
theorem t_orB {c d : ExB} {σ : L2.St} {H : Hp} {Q : Bool → Hp → Prop} (h : tG G relB E (orB c d) σ H Q) : tOr (tG G relB E c) (tG G relB E d) σ H Q := by
  obtain ⟨own, res, S, ρ, w, en, q⟩ := h
  refine ⟨own, res, S, ρ, w, en, (Good.bind (r1 := relB) q).imp fun x H1 ⟨own1, S1, d, g1, w1, r1, q1⟩ => ?_⟩
  cases r1
  cases x with
  | false => exact ⟨own1, res, S1, ρ, w1, en.grow g1, q1⟩
  | true => exact q1.here w1 rfl
theorem w_and {c d : ExB} {rest : List Expr} (ha : PT X a (tG G relB E c)) (hb : PW X (.BoolOp .And (b :: rest) pos) (tG G relB E d)) : PW X (.BoolOp .And (a :: b :: rest) pos) (tG G relB E (andB c d)) := pw_imp (pw_and ha hb) fun _ _ _ => t_andB
theorem w_or {c d : ExB} {rest : List Expr} (ha : PT X a (tG G relB E c)) (hb : PW X (.BoolOp .Or (b :: rest) pos) (tG G relB E d)) : PW X (.BoolOp .Or (a :: b :: rest) pos) (tG G relB E (orB c d)) := pw_imp (pw_or ha hb) fun _ _ _ => t_orB
theorem b_not {c : ExB} (ha : PT X a (tG G relB E c)) : PT X (.UnaryOp .Not a pos) (tG G relB E (notB c)) := pt_imp (pt_not ha) fun σ H Q ⟨own, res, S, ρ, w, en, q⟩ =>
  ⟨own, res, S, ρ, w, en, (Good.bind (r1 := relB) q).imp fun x H1 ⟨own1, S1, d, g1, w1, r1, q1⟩ => by cases r1; exact q1.here w1 rfl⟩
theorem e_andV {rest : List Expr} (ha : PE X a (tG G (relV G) E fa)) (hb : PE X (.BoolOp .And (b :: rest) pos) (tG G (relV G) E fb)) : PE X (.BoolOp .And (a :: b :: rest) pos) (tG G (relV G) E (andV fa fb)) :=
  pe_imp (pe_and ha hb) fun σ H Q ⟨own, res, S, ρ, w, en, q⟩ =>
    ⟨own, res, S, ρ, w, en, (Good.bind (r1 := relV G) q).imp fun x H1 ⟨own1, S1, d, g1, w1, r1, q1⟩ => by
      cases d with
      | bl k =>
        cases r1
        refine ⟨k, rfl, ?_⟩
        cases k with
        | true => exact ⟨own1, res, S1, ρ, w1, en.grow g1, q1⟩
        | false => exact q1.here w1 rfl
      | _ => exact q1.elim⟩
theorem e_orV {rest : List Expr} (ha : PE X a (tG G (relV G) E fa)) (hb : PE X (.BoolOp .Or (b :: rest) pos) (tG G (relV G) E fb)) : PE X (.BoolOp .Or (a :: b :: rest) pos) (tG G (relV G) E (orV fa fb)) :=
  pe_imp (pe_or ha hb) fun σ H Q ⟨own, res, S, ρ, w, en, q⟩ =>
    ⟨own, res, S, ρ, w, en, (Good.bind (r1 := relV G) q).imp fun x H1 ⟨own1, S1, d, g1, w1, r1, q1⟩ => by
      cases d with
      | bl k =>
        cases r1
        refine ⟨k, rfl, ?_⟩
        cases k with
        | false => exact ⟨own1, res, S1, ρ, w1, en.grow g1, q1⟩
        | true => exact q1.here w1 rfl
      | _ => exact q1.elim⟩
theorem e_notV (ha : PE X a (tG G (relV G) E fa)) : PE X (.UnaryOp .Not a pos) (tG G (relV G) E (un1 notV fa)) :=
  pe_imp (pe_not ha) fun σ H Q ⟨own, res, S, ρ, w, en, q⟩ =>
    ⟨own, res, S, ρ, w, en, (Good.bind (r1 := relV G) q).imp fun x H1 ⟨own1, S1, d, g1, w1, r1, q1⟩ => by
      cases d with
      | bl k =>
        cases r1
        exact ⟨k, rfl, q1.here w1 rfl⟩
      | _ => exact q1.elim⟩
theorem e_ifE {c : Expr} {t : ExB} (hc : PT X c (tG G relB E t)) (ha : PE X a (tG G (relV G) E fa)) (hb : PE X b (tG G (relV G) E fb)) : PE X (.IfExp c a b pos) (tG G (relV G) E (ifE t fa fb)) :=
  pe_imp (pe_ifExp hc ha hb) fun σ H Q ⟨own, res, S, ρ, w, en, q⟩ =>
    ⟨own, res, S, ρ, w, en, (Good.bind (r1 := relB) q).imp fun x H1 ⟨own1, S1, d, g1, w1, r1, q1⟩ => by
      cases r1
      cases x with
      | true => exact ⟨own1, res, S1, ρ, w1, en.grow g1, q1⟩
      | false => exact ⟨own1, res, S1, ρ, w1, en.grow g1, q1⟩⟩
/-! ### argument lists -/
theorem a_nil : PA X [] (tG G (relL G) E arN) := pa_imp pa_nil fun σ H Q ⟨own, res, S, ρ, w, en, q⟩ => q.here w Reps.nil
theorem a_cons {es : List Expr} {fr : ExL} (ha : PE X e (tG G (relV G) E fa)) (hr : PA X es (tG G (relL G) E fr)) (hs : starEach (e :: es) X.env = (false, eval e X.env) :: starEach es X.env) : PA X (e :: es) (tG G (relL G) E (arC fa fr)) :=
  pa_imp (pa_cons ha hr hs) fun σ H Q ⟨own, res, S, ρ, w, en, q⟩ =>
    ⟨own, res, S, ρ, w, en, (Good.bind (r1 := relV G) q).imp fun x H1 ⟨own1, S1, d, g1, w1, r1, q1⟩ =>
      ⟨own1, res, S1, ρ, w1, en.grow g1, (Good.bind (r1 := relL G) q1).imp fun xs H2 ⟨own2, S2, ds, g2, w2, r2, q2⟩ => q2.here w2 (Reps.cons (r1.grow g2) r2)⟩⟩
/-- what takes a list of values, by values -/
theorem t_ofL {r : List V → Hp → VK → Prop} {g : List D → Sto → R D} {fl : ExL} (hp : ∀ own res S H xs ds Q, Wd G own res S H → Reps G H own res ds xs → Good G (relV G) own res H Q E (g ds S) → r xs H Q) {σ : L2.St} {H : Hp} {Q : VK}
    (h : tG G (relV G) E (ofL g fl) σ H Q) : tCB r (tG G (relL G) E fl) σ H Q := by
  obtain ⟨own, res, S, ρ, w, en, q⟩ := h
  refine ⟨own, res, S, ρ, w, en, (Good.bind (r1 := relL G) q).imp fun x H1 ⟨own1, S1, d, g1, w1, r1, q1⟩ => ?_⟩
  exact hp own1 res S1 H1 x d Q w1 r1 q1
/-! ### displays -/
def mkT (ds : List D) (S : Sto) : R D := if ds.length ≤ 16777216 then .ok (.tup ds) S else .bad
def mkL (ds : List D) (S : Sto) : R D := if ds.length ≤ 16777216 then .ok (.lst ds) S else .bad
/-- a list that will change -/
def mkC (ds : List D) (S : Sto) : R D := if ds.length ≤ 16777216 then .ok (.m S.length) (S ++ [.lst ds]) else .bad
/-- a new list, a new tuple, a new cell -/
theorem new_lst {ds : List D} {vs : List V} {Q : VK} (w : Wd G own res S H) (r : Reps G H own res ds vs) (q : Good G (relV G) own res H Q E (.ok (.lst ds) S)) {p : Addr} (hp : H p = none) : Q (.ref p) (upd H p (.lst vs)) := by
  have n := w.fresh hp
  exact q own _ _ (Grow.laid hp n.1) (w.laid hp) ⟨p, vs, rfl, upd_same, n.1, n.2, r.laid hp n.1⟩
theorem new_tup {ds : List D} {vs : List V} {Q : VK} (w : Wd G own res S H) (r : Reps G H own res ds vs) (q : Good G (relV G) own res H Q E (.ok (.tup ds) S)) {p : Addr} (hp : H p = none) : Q (.ref p) (upd H p (.tup vs)) := by
  have n := w.fresh hp
  exact q own _ _ (Grow.laid hp n.1) (w.laid hp) ⟨p, vs, rfl, upd_same, n.1, n.2, r.laid hp n.1⟩
theorem new_cell {ds : List D} {vs : List V} {Q : VK} (w : Wd G own res S H) (r : Reps G H own res ds vs) (q : Good G (relV G) own res H Q E (.ok (.m S.length) (S ++ [.lst ds]))) {p : Addr} (hp : H p = none) : Q (.ref p) (upd H p (.lst vs)) := by
  have g : Grow own H (own ++ [p]) (upd H p (.lst vs)) := Grow.cell hp
  refine q (own ++ [p]) _ _ g (w.push hp ⟨vs, upd_same, r.grow g⟩) ⟨p, rfl, ?_⟩
  rw [← w.len, List.getElem?_append_right (Nat.le_refl _)]
  simp
theorem line_eq {n : Nat} (h : n ≤ 16777216) : n ≤ sizeLine := by rw [sizeLine_eq]; exact h
theorem e_tup {es : List Expr} {k : Nat} {fl : ExL} (h : PA X es (tG G (relL G) E fl)) : PE X (.Tuple es k pos) (tG G (relV G) E (ofL mkT fl)) :=
  pe_imp (pe_tup h) fun σ H Q q => t_ofL (r := fun xs H Q => xs.length ≤ sizeLine ∧ ∀ p, H p = none → Q (.ref p) (upd H p (.tup xs))) (fun own res S H xs ds Q w r q => by
    unfold mkT at q
    by_cases hz : ds.length ≤ 16777216
    · rw [if_pos hz] at q
      exact ⟨line_eq (by rw [← r.length]; exact hz), fun p hp => new_tup w r q hp⟩
    · rw [if_neg hz] at q
      exact q.elim) q
theorem e_lst {es : List Expr} {fl : ExL} (h : PA X es (tG G (relL G) E fl)) : PE X (.List es pos) (tG G (relV G) E (ofL mkL fl)) :=
  pe_imp (pe_lst h) fun σ H Q q => t_ofL (r := fun xs H Q => xs.length ≤ sizeLine ∧ ∀ p, H p = none → Q (.ref p) (upd H p (.lst xs))) (fun own res S H xs ds Q w r q => by
    unfold mkL at q
    by_cases hz : ds.length ≤ 16777216
    · rw [if_pos hz] at q
      exact ⟨line_eq (by rw [← r.length]; exact hz), fun p hp => new_lst w r q hp⟩
    · rw [if_neg hz] at q
      exact q.elim) q
theorem e_lstC {es : List Expr} {fl : ExL} (h : PA X es (tG G (relL G) E fl)) : PE X (.List es pos) (tG G (relV G) E (ofL mkC fl)) :=
  pe_imp (pe_lst h) fun σ H Q q => t_ofL (r := fun xs H Q => xs.length ≤ sizeLine ∧ ∀ p, H p = none → Q (.ref p) (upd H p (.lst xs))) (fun own res S H xs ds Q w r q => by
    unfold mkC at q
    by_cases hz : ds.length ≤ 16777216
    · rw [if_pos hz] at q
      exact ⟨line_eq (by rw [← r.length]; exact hz), fun p hp => new_cell w r q hp⟩
    · rw [if_neg hz] at q
      exact q.elim) q
end
end Ev
namespace Ev
open L2 PySem PySem.Spec PyProof.Rows

/-! ## a tree as data -/
mutual
def pyR (f : Nat → Option PyData) : D → Option PyData
  | .non => some .none
  | .bl b => some (.bool b)
  | .int i => some (.int i)
  | .str x => some (.str x)
  | .lst xs => (pyRs f xs).map .list
  | .tup xs => (pyRs f xs).map .tuple
  | .m k => f k
  | .frz _ | .dct _ _ | .fn _ | .cl _ | .ty _ => none
def pyRs (f : Nat → Option PyData) : List D → Option (List PyData)
  | [] => some []
  | d :: ds => (pyR f d).bind fun x => (pyRs f ds).map fun xs => x :: xs
end
def pyM (S : Sto) : Nat → Nat → Option PyData
  | 0, _ => none
  | n + 1, k => match S[k]? with
    | some (.lst xs) => (pyRs (pyM S n) xs).map .list
    | _ => none
def py (S : Sto) (d : D) : Option PyData := pyR (pyM S 3) d

section
variable {X : Cx} {G : Gc} {E : XK} {H : Hp} {own res : List Addr} {S : Sto}
mutual
theorem Rep.dpR (K : PySem.W.Frag) {f : Nat → Option PyData} (hf : ∀ k p a, f k = some p → own[k]? = some a → Dp K H (.ref a) p) : ∀ (d : D) (v : V) (p : PyData), Rep G H own res d v → pyR f d = some p → Dp K H v p
  | .non, v, p, r, h => by cases r; cases h; exact .non
  | .bl b, v, p, r, h => by cases r; cases h; exact .bl b
  | .int i, v, p, r, h => by cases r; cases h; exact .int i
  | .str x, v, p, r, h => by cases r; cases h; exact .str x
  | .lst xs, v, p, r, h => by
    obtain ⟨a, vs, e, h1, _, _, h4⟩ := r
    subst e
    obtain ⟨ps, q1, q2⟩ := Option.map_eq_some_iff.mp (show (pyRs f xs).map PyData.list = some p from h)
    subst q2
    exact .lst (SqL.of h1) (Reps.dpR K hf xs vs ps h4 q1)
  | .tup xs, v, p, r, h => by
    obtain ⟨a, vs, e, h1, _, _, h4⟩ := r
    subst e
    obtain ⟨ps, q1, q2⟩ := Option.map_eq_some_iff.mp (show (pyRs f xs).map PyData.tuple = some p from h)
    subst q2
    exact .tup (SqT.of h1) (Reps.dpR K hf xs vs ps h4 q1)
  | .m k, v, p, r, h => by
    obtain ⟨a, e, h1⟩ := r
    subst e
    exact hf k p a h h1
  | .frz _, _, _, _, h => by cases h
  | .dct _ _, _, _, _, h => by cases h
  | .fn _, _, _, _, h => by cases h
  | .cl _, _, _, _, h => by cases h
  | .ty _, _, _, _, h => by cases h
theorem Reps.dpR (K : PySem.W.Frag) {f : Nat → Option PyData} (hf : ∀ k p a, f k = some p → own[k]? = some a → Dp K H (.ref a) p) : ∀ (ds : List D) (vs : List V) (ps : List PyData), Reps G H own res ds vs → pyRs f ds = some ps → DpAll K H vs ps
  | [], vs, ps, r, h => by
    have r : vs = [] := r
    cases r; cases h; exact .nil
  | d :: ds, vs, ps, r, h => by
    obtain ⟨v, w, rfl, r1, r2⟩ := r
    obtain ⟨x, h1, h2⟩ := Option.bind_eq_some_iff.mp (show ((pyR f d).bind fun x => (pyRs f ds).map fun xs => x :: xs) = some ps from h)
    obtain ⟨xs, h3, h4⟩ := Option.map_eq_some_iff.mp h2
    subst h4
    exact .cons (Rep.dpR K hf d v x r1 h1) (Reps.dpR K hf ds w xs r2 h3)
end
theorem Wd.pyM (K : PySem.W.Frag) (w : Wd G own res S H) : ∀ (n k : Nat) (p : PyData) (a : Addr), pyM S n k = some p → own[k]? = some a → Dp K H (.ref a) p
  | 0, _, _, _, h, _ => by cases h
  | n + 1, k, p, a, h, e => by
    have h : (match S[k]? with | some (.lst xs) => (pyRs (Ev.pyM S n) xs).map .list | _ => none) = some p := h
    cases hk : S[k]? with
    | none => rw [hk] at h; cases h
    | some o =>
      rw [hk] at h
      cases o with
      | lst xs =>
        obtain ⟨ps, q1, q2⟩ := Option.map_eq_some_iff.mp h
        subst q2
        obtain ⟨vs, h1, h2⟩ := w.cell k _ a hk e
        exact .lst (SqL.of h1) (Reps.dpR K (fun k p a => Wd.pyM K w n k p a) xs vs ps h2 q1)
      | dct _ _ => cases h
      | ndc _ _ => cases h
theorem Rep.dp (K : PySem.W.Frag) (w : Wd G own res S H) {d : D} {v : V} {p : PyData} (r : Rep G H own res d v) (h : py S d = some p) : Dp K H v p :=
  Rep.dpR K (fun k p a => w.pyM K 3 k p a) d v p r h
end

/-! ## what operators answer -/
def dAdd (a b : D) (S : Sto) : R D := match a, b with
  | .int i, .int j => .ok (.int (i + j)) S
  | .str x, .str y => if x.length + y.length ≤ 16777216 then .ok (.str (x ++ y)) S else .bad
  | .tup xs, .tup ys => if xs.length + ys.length ≤ 16777216 then .ok (.tup (xs ++ ys)) S else .bad
  | a, b => match lstOf S a, lstOf S b with
    | some xs, some ys => if xs.length + ys.length ≤ 16777216 then .ok (.lst (xs ++ ys)) S else .bad
    | _, _ => .bad
def dSub (a b : D) (S : Sto) : R D := match a, b with
  | .int i, .int j => .ok (.int (i - j)) S
  | _, _ => .bad
def big (i : Int) : Bool := decide (-(2 ^ 64) < i ∧ i < 2 ^ 64)
def dMul (a b : D) (S : Sto) : R D := match a, b with
  | .int i, .int j => if big i || big j then .ok (.int (i * j)) S else .bad
  | a, .int k => match lstOf S a with
    | some xs => if -(2 ^ 63) ≤ k ∧ k < 2 ^ 63 ∧ xs.length * k.toNat ≤ 16777216 then .ok (.lst (List.replicate k.toNat xs).flatten) S else .bad
    | none => .bad
  | _, _ => .bad
def dMod (a b : D) (S : Sto) : R D := match a, b with
  | .int i, .int j => if 0 < j then .ok (.int (i % j)) S else .bad
  | _, _ => .bad
def dDiv (a b : D) (S : Sto) : R D := match a, b with
  | .int i, .int j => if 0 < j ∧ j < 1073741824 then .ok (.int (i / j)) S else .bad
  | _, _ => .bad
def dPow (a b : D) (S : Sto) : R D := match a, b with
  | .int i, .int j => if 0 ≤ j ∧ j ≤ 1000000 ∧ i.natAbs < 2 ^ 64 then .ok (.int (i ^ j.toNat)) S else .bad
  | _, _ => .bad
def dNeg (a : D) (S : Sto) : R D := match a with
  | .int i => .ok (.int (-i)) S
  | _ => .bad
def dCmp (p : Int → Int → Bool) (a b : D) (S : Sto) : R D := match a, b with
  | .int i, .int j => .ok (.bl (p i j)) S
  | _, _ => .bad
def dEq (a b : D) (S : Sto) : R D := match a, b with
  | .str x, .str y => .ok (.bl (decide (x = y))) S
  | a, b => match py S a, py S b with
    | some x, some y => if SeqAt.shaped x = true ∧ SeqAt.shaped y = true then .ok (.bl (PyData.eqv x y)) S else .bad
    | _, _ => .bad
def dNe (a b : D) (S : Sto) : R D := match a, b with
  | .str x, .str y => .ok (.bl (!decide (x = y))) S
  | a, b => match py S a, py S b with
    | some x, some y => if SeqAt.shaped x = true ∧ SeqAt.shaped y = true then .ok (.bl (!PyData.eqv x y)) S else .bad
    | _, _ => .bad
def isNon : D → Bool
  | .non => true
  | _ => false
def dIs (a b : D) (S : Sto) : R D := match b with
  | .non => .ok (.bl (isNon a)) S
  | _ => .bad
def dNot (a b : D) (S : Sto) : R D := match b with
  | .non => .ok (.bl (!isNon a)) S
  | _ => .bad
/-- flat: none, bools, ints, texts -/
def flatD : D → Bool
  | .non | .bl _ | .int _ | .str _ => true
  | _ => false
def eqF : D → D → Bool
  | .non, .non => true
  | .bl a, .bl b => a == b
  | .bl a, .int b => (if a then 1 else 0) == b
  | .int a, .bl b => a == (if b then 1 else 0)
  | .int a, .int b => a == b
  | .str a, .str b => a == b
  | _, _ => false
def inStr (x y : Str) : Bool := !(Builtin.Str.occurrences y x 0 y.length 1).isEmpty
def dIn (neg : Bool) (a b : D) (S : Sto) : R D := match a, b with
  | .str x, .str y => .ok (.bl (if neg then !inStr x y else inStr x y)) S
  | a, .tup ys => if flatD a = true ∧ ys.all flatD = true then .ok (.bl (if neg then !ys.any (fun y => eqF y a) else ys.any (fun y => eqF y a))) S else .bad
  | a, b => match py S a, py S b with
    | some x, some (.list ys) => if SeqAt.shaped x = true ∧ SeqAt.shaped (.list ys) = true then .ok (.bl (if neg then !ys.any (fun z => PyData.eqv z x) else ys.any (fun z => PyData.eqv z x))) S else .bad
    | _, _ => .bad

section
variable {X : Cx} {G : Gc} {E : XK} {a b c e : Expr} {fa fb fc : Ex} {pos : Pos} {H : Hp} {own res : List Addr} {S : Sto}
def rAddA (K : PySem.W.Frag) : R2 := fun x y H Q => (rI0 (fun i j => .int (i + j)) x y H Q ∨ (∃ i j, x = .str i ∧ y = .str j ∧ i.length + j.length ≤ sizeLine ∧ Q (.str (i ++ j)) H)) ∨ (rCatA K x y H Q ∨ rCat x y H Q)
theorem op_addA : OpR X (binaryOp .Add) (rAddA X.K) := (op_add.or op_add_str).or (op_catA.or op_cat)
theorem two_lists {x y : V} {d e : D} {Q : VK} (w : Wd G own res S H) (r1 : Rep G H own res d x) (r2 : Rep G H own res e y)
    (q : Good G (relV G) own res H Q E (match lstOf S d, lstOf S e with
    | some xs, some ys => if xs.length + ys.length ≤ 16777216 then .ok (.lst (xs ++ ys)) S else .bad
    | _, _ => .bad)) : rCat x y H Q := by
  cases h1 : lstOf S d with
  | none => rw [h1] at q; exact q.elim
  | some xs =>
    cases h2 : lstOf S e with
    | none => rw [h1, h2] at q; exact q.elim
    | some ys =>
      rw [h1, h2] at q
      obtain ⟨l, vs, rfl, hl, rs⟩ := r1.lstOf w h1
      obtain ⟨l2, vs2, rfl, hl2, rs2⟩ := r2.lstOf w h2
      by_cases hz : xs.length + ys.length ≤ 16777216
      · dsimp only at q
        rw [if_pos hz] at q
        exact ⟨l, l2, vs, vs2, rfl, rfl, hl, hl2, line_eq (by rw [← rs.length, ← rs2.length]; exact hz), fun p hp => new_lst w (rs.append rs2) q hp⟩
      · dsimp only at q
        rw [if_neg hz] at q
        exact q.elim
theorem ok_add {x y : V} {d e : D} {Q : VK} (w : Wd G own res S H) (r1 : Rep G H own res d x) (r2 : Rep G H own res e y) (q : Good G (relV G) own res H Q E (dAdd d e S)) : rAddA X.K x y H Q := by
  unfold dAdd at q
  split at q
  · cases r1; cases r2
    exact .inl (.inl ⟨_, _, rfl, rfl, q.here w rfl⟩)
  · cases r1; cases r2
    split at q
    · rename_i hz
      exact .inl (.inr ⟨_, _, rfl, rfl, line_eq hz, q.here w rfl⟩)
    · exact q.elim
  · rename_i xs ys
    obtain ⟨l, vs, rfl, hl, rs⟩ := r1.tupOf
    obtain ⟨l2, vs2, rfl, hl2, rs2⟩ := r2.tupOf
    split at q
    · rename_i hz
      have e0 : xs = [] ↔ vs = [] := by
        have := rs.length
        rw [← List.length_eq_zero_iff, ← List.length_eq_zero_iff]; omega
      have e1 : ys = [] ↔ vs2 = [] := by
        have := rs2.length
        rw [← List.length_eq_zero_iff, ← List.length_eq_zero_iff]; omega
      refine .inr (.inl ⟨l, l2, vs, vs2, rfl, rfl, SqT.of hl, SqT.of hl2, line_eq (by rw [← rs.length, ← rs2.length]; exact hz), fun z => ?_, fun _ z => ?_, fun _ _ p hp => new_tup w (rs.append rs2) q hp⟩)
      · rw [e0.mpr z] at q
        exact q.here w r2
      · rw [e1.mpr z, List.append_nil] at q
        exact q.here w r1
    · exact q.elim
  · exact .inr (.inr (two_lists w r1 r2 q))
theorem e_add (ha : PE X a (tG G (relV G) E fa)) (hb : PE X b (tG G (relV G) E fb)) : PE X (.BinOp a .Add b pos) (tG G (relV G) E (bi2 dAdd fa fb)) := e_bin op_addA (fun _ _ _ _ _ _ _ _ _ w r1 r2 q => ok_add w r1 r2 q) ha hb
theorem e_sub (ha : PE X a (tG G (relV G) E fa)) (hb : PE X b (tG G (relV G) E fb)) : PE X (.BinOp a .Sub b pos) (tG G (relV G) E (bi2 dSub fa fb)) := e_bin op_sub (fun own res S H x y d e Q w r1 r2 q => by
  unfold dSub at q
  split at q
  · cases r1; cases r2
    exact ⟨_, _, rfl, rfl, q.here w rfl⟩
  · exact q.elim) ha hb
theorem big_mul {i j : Int} (h : (big i || big j) = true) : CMul i j := by
  rcases Bool.or_eq_true_iff.mp h with h | h
  · exact .inl (of_decide_eq_true h)
  · exact .inr (of_decide_eq_true h)
theorem e_mul (ha : PE X a (tG G (relV G) E fa)) (hb : PE X b (tG G (relV G) E fb)) : PE X (.BinOp a .Mult b pos) (tG G (relV G) E (bi2 dMul fa fb)) := e_bin (op_mul.or op_rep) (fun own res S H x y d e Q w r1 r2 q => by
  unfold dMul at q
  split at q
  · cases r1; cases r2
    split at q
    · rename_i hz
      exact .inl ⟨_, _, rfl, rfl, big_mul hz, q.here w rfl⟩
    · exact q.elim
  · rename_i k _
    cases r2
    split at q
    · rename_i xs hx
      obtain ⟨l, vs, rfl, hl, rs⟩ := r1.lstOf w hx
      split at q
      · rename_i hz
        refine .inr ⟨l, k, vs, rfl, rfl, hl, hz.1, hz.2.1, line_eq (by rw [← rs.length]; exact hz.2.2), fun p hp => new_lst w ?_ q hp⟩
        generalize k.toNat = n
        induction n with
        | zero => exact Reps.nil
        | succ n ih => simpa [List.replicate_succ] using rs.append ih
      · exact q.elim
    · exact q.elim
  · exact q.elim) ha hb
theorem e_mod (ha : PE X a (tG G (relV G) E fa)) (hb : PE X b (tG G (relV G) E fb)) : PE X (.BinOp a .Mod b pos) (tG G (relV G) E (bi2 dMod fa fb)) := e_bin op_mod (fun own res S H x y d e Q w r1 r2 q => by
  unfold dMod at q
  split at q
  · cases r1; cases r2
    split at q
    · rename_i hz
      exact ⟨_, _, rfl, rfl, hz, q.here w rfl⟩
    · exact q.elim
  · exact q.elim) ha hb
theorem e_div (ha : PE X a (tG G (relV G) E fa)) (hb : PE X b (tG G (relV G) E fb)) : PE X (.BinOp a .FloorDiv b pos) (tG G (relV G) E (bi2 dDiv fa fb)) := e_bin op_fdiv (fun own res S H x y d e Q w r1 r2 q => by
  unfold dDiv at q
  split at q
  · cases r1; cases r2
    split at q
    · rename_i hz
      exact ⟨_, _, rfl, rfl, hz, q.here w rfl⟩
    · exact q.elim
  · exact q.elim) ha hb
theorem e_pow (ha : PE X a (tG G (relV G) E fa)) (hb : PE X b (tG G (relV G) E fb)) : PE X (.BinOp a .Pow b pos) (tG G (relV G) E (bi2 dPow fa fb)) := e_bin op_pow (fun own res S H x y d e Q w r1 r2 q => by
  unfold dPow at q
  split at q
  · cases r1; cases r2
    split at q
    · rename_i hz
      exact ⟨_, _, rfl, rfl, hz, q.here w rfl⟩
    · exact q.elim
  · exact q.elim) ha hb
theorem e_neg (ha : PE X a (tG G (relV G) E fa)) : PE X (.UnaryOp .USub a pos) (tG G (relV G) E (un1 dNeg fa)) := e_una un_neg (fun own res S H x d Q w r1 q => by
  unfold dNeg at q
  split at q
  · cases r1
    exact ⟨_, rfl, q.here w rfl⟩
  · exact q.elim) ha
theorem ok_cmp {p : Int → Int → Bool} {x y : V} {d e : D} {Q : VK} (w : Wd G own res S H) (r1 : Rep G H own res d x) (r2 : Rep G H own res e y) (q : Good G (relV G) own res H Q E (dCmp p d e S)) : rI0 (fun i j => .bl (p i j)) x y H Q := by
  unfold dCmp at q
  split at q
  · cases r1; cases r2
    exact ⟨_, _, rfl, rfl, q.here w rfl⟩
  · exact q.elim
theorem ok_eq {x y : V} {d e : D} {Q : VK} (w : Wd G own res S H) (r1 : Rep G H own res d x) (r2 : Rep G H own res e y) (q : Good G (relV G) own res H Q E (dEq d e S)) : rEq x y H Q ∨ rEqD X.K x y H Q := by
  unfold dEq at q
  split at q
  · cases r1; cases r2
    exact .inl ⟨rfl, q.here w (by simp [relV, Rep])⟩
  · split at q
    · rename_i p1 p2 h1 h2
      split at q
      · rename_i hz
        exact .inr ⟨_, _, r1.dp X.K w h1, r2.dp X.K w h2, hz.1, hz.2, q.here w rfl⟩
      · exact q.elim
    · exact q.elim
theorem ok_ne {x y : V} {d e : D} {Q : VK} (w : Wd G own res S H) (r1 : Rep G H own res d x) (r2 : Rep G H own res e y) (q : Good G (relV G) own res H Q E (dNe d e S)) : rNe x y H Q ∨ rNeD X.K x y H Q := by
  unfold dNe at q
  split at q
  · cases r1; cases r2
    exact .inl ⟨rfl, q.here w (by simp [relV, Rep])⟩
  · split at q
    · rename_i p1 p2 h1 h2
      split at q
      · rename_i hz
        exact .inr ⟨_, _, r1.dp X.K w h1, r2.dp X.K w h2, hz.1, hz.2, q.here w rfl⟩
      · exact q.elim
    · exact q.elim
theorem isNon_rep {d : D} {x : V} (r : Rep G H own res d x) : decide (x = .non) = isNon d := by
  cases d with
  | non => cases r; rfl
  | bl _ => cases r; rfl
  | int _ => cases r; rfl
  | str _ => cases r; rfl
  | lst _ => obtain ⟨a, vs, rfl, _⟩ := r; rfl
  | tup _ => obtain ⟨a, vs, rfl, _⟩ := r; rfl
  | frz _ => obtain ⟨a, o, vs, rfl, _⟩ := r; rfl
  | dct _ _ => obtain ⟨a, kvs, rfl, _⟩ := r; rfl
  | m _ => obtain ⟨a, rfl, _⟩ := r; rfl
  | fn _ => cases r; rfl
  | cl _ => cases r; rfl
  | ty _ => cases r; rfl
theorem ok_is {x y : V} {d e : D} {Q : VK} (w : Wd G own res S H) (r1 : Rep G H own res d x) (r2 : Rep G H own res e y) (q : Good G (relV G) own res H Q E (dIs d e S)) : y = .non ∧ Q (.bl (decide (x = .non))) H := by
  unfold dIs at q
  split at q
  · cases r2
    exact ⟨rfl, by rw [isNon_rep r1]; exact q.here w rfl⟩
  · exact q.elim
theorem ok_not {x y : V} {d e : D} {Q : VK} (w : Wd G own res S H) (r1 : Rep G H own res d x) (r2 : Rep G H own res e y) (q : Good G (relV G) own res H Q E (dNot d e S)) : y = .non ∧ Q (.bl (!decide (x = .non))) H := by
  unfold dNot at q
  split at q
  · cases r2
    exact ⟨rfl, by rw [isNon_rep r1]; exact q.here w rfl⟩
  · exact q.elim
theorem flat_rep {d : D} {x : V} (r : Rep G H own res d x) (f : flatD d = true) : flatV x = true := by
  cases d <;> first | (cases r; rfl) | (cases f)
theorem eqF_rep {d e : D} {x y : V} (r : Rep G H own res d x) (f : flatD d = true) (r2 : Rep G H own res e y) (f2 : flatD e = true) : eqV x y = eqF d e := by
  cases d <;> first
    | (cases f; done)
    | (cases r; cases e <;> first | (cases f2; done) | (cases r2; rfl))
theorem flats_rep : ∀ {ds : List D} {xs : List V}, Reps G H own res ds xs → ds.all flatD = true → xs.all flatV = true
  | [], _, r, _ => by
    have r : _ = [] := r
    rw [r]; rfl
  | _ :: _, _, r, f => by
    obtain ⟨v, w, rfl, h1, h2⟩ := r
    rw [List.all_cons, Bool.and_eq_true] at f ⊢
    exact ⟨flat_rep h1 f.1, flats_rep h2 f.2⟩
theorem inV_rep {d : D} {x : V} (r : Rep G H own res d x) (f : flatD d = true) : ∀ {ds : List D} {xs : List V}, Reps G H own res ds xs → ds.all flatD = true → inV x xs = ds.any fun y => eqF y d
  | [], _, q, _ => by
    have q : _ = [] := q
    rw [q]; rfl
  | _ :: _, _, q, g => by
    obtain ⟨v, w, rfl, h1, h2⟩ := q
    rw [List.all_cons, Bool.and_eq_true] at g
    have ih := inV_rep r f h2 g.2
    unfold inV at ih ⊢
    rw [List.any_cons, List.any_cons, ih, eqF_rep h1 g.1 r f]
def rInA (K : PySem.W.Frag) : R2 := fun x y H Q => (∃ i j, x = .str i ∧ y = .str j ∧ Q (.bl (!(Builtin.Str.occurrences j i 0 j.length 1).isEmpty)) H) ∨ (rIn K false x y H Q ∨ rInD K x y H Q)
def rNotInA (K : PySem.W.Frag) : R2 := fun x y H Q => (∃ i j, x = .str i ∧ y = .str j ∧ Q (.bl (!(!(Builtin.Str.occurrences j i 0 j.length 1).isEmpty))) H) ∨ (rIn K true x y H Q ∨ rNotInD K x y H Q)
theorem ok_in {x y : V} {d e : D} {Q : VK} (w : Wd G own res S H) (r1 : Rep G H own res d x) (r2 : Rep G H own res e y) (q : Good G (relV G) own res H Q E (dIn false d e S)) : rInA X.K x y H Q := by
  unfold dIn at q
  split at q
  · cases r1; cases r2
    exact .inl ⟨_, _, rfl, rfl, q.here w rfl⟩
  · rename_i ys _
    split at q
    · rename_i hz
      obtain ⟨l, vs, rfl, hl, rs⟩ := r2.tupOf
      refine .inr (.inl ⟨l, vs, rfl, .inr (SqT.of hl), flat_rep r1 hz.1, flats_rep rs hz.2, ?_⟩)
      show Q (.bl (inV x vs)) H
      rw [inV_rep r1 hz.1 rs hz.2]
      exact q.here w rfl
    · exact q.elim
  · split at q
    · rename_i p1 p2 h1 h2
      split at q
      · rename_i hz
        exact .inr (.inr ⟨_, _, r1.dp X.K w h1, r2.dp X.K w h2, hz.1, hz.2, q.here w rfl⟩)
      · exact q.elim
    · exact q.elim
theorem ok_notIn {x y : V} {d e : D} {Q : VK} (w : Wd G own res S H) (r1 : Rep G H own res d x) (r2 : Rep G H own res e y) (q : Good G (relV G) own res H Q E (dIn true d e S)) : rNotInA X.K x y H Q := by
  unfold dIn at q
  split at q
  · cases r1; cases r2
    exact .inl ⟨_, _, rfl, rfl, q.here w rfl⟩
  · rename_i ys _
    split at q
    · rename_i hz
      obtain ⟨l, vs, rfl, hl, rs⟩ := r2.tupOf
      refine .inr (.inl ⟨l, vs, rfl, .inr (SqT.of hl), flat_rep r1 hz.1, flats_rep rs hz.2, ?_⟩)
      show Q (.bl (!inV x vs)) H
      rw [inV_rep r1 hz.1 rs hz.2]
      exact q.here w rfl
    · exact q.elim
  · split at q
    · rename_i p1 p2 h1 h2
      split at q
      · rename_i hz
        exact .inr (.inr ⟨_, _, r1.dp X.K w h1, r2.dp X.K w h2, hz.1, hz.2, q.here w rfl⟩)
      · exact q.elim
    · exact q.elim
theorem op_inA (hu : X.A.units + 65 < cLine) : OpR X (compareOp .In) (rInA X.K) := op_in_str.or (op_in_seq.or (op_inD hu))
theorem op_notInA (hu : X.A.units + 65 < cLine) : OpR X (compareOp .NotIn) (rNotInA X.K) := op_notin_str.or (op_notIn_seq.or (op_notInD hu))

/-- a comparison's answer -/
def dCo : CmpOp → D → D → Sto → R D
  | .Eq => dEq
  | .NotEq => dNe
  | .Lt => dCmp fun i j => decide (i < j)
  | .LtE => dCmp fun i j => decide (i ≤ j)
  | .Gt => dCmp fun i j => decide (j < i)
  | .GtE => dCmp fun i j => decide (j ≤ i)
  | .Is => dIs
  | .IsNot => dNot
  | .In => dIn false
  | .NotIn => dIn true
/-- .. and the hand layer's rule for it -/
def rCo (K : PySem.W.Frag) : CmpOp → R2
  | .Eq => fun x y H Q => rEq x y H Q ∨ rEqD K x y H Q
  | .NotEq => fun x y H Q => rNe x y H Q ∨ rNeD K x y H Q
  | .Lt => rI0 fun i j => .bl (decide (i < j))
  | .LtE => rI0 fun i j => .bl (decide (i ≤ j))
  | .Gt => rI0 fun i j => .bl (decide (j < i))
  | .GtE => rI0 fun i j => .bl (decide (j ≤ i))
  | .Is => fun x y H Q => y = .non ∧ Q (.bl (decide (x = .non))) H
  | .IsNot => fun x y H Q => y = .non ∧ Q (.bl (!decide (x = .non))) H
  | .In => rInA K
  | .NotIn => rNotInA K
theorem op_co (hu : X.A.units + 65 < cLine) : ∀ op : CmpOp, OpR X (compareOp op) (rCo X.K op)
  | .Eq => op_eq.or (op_eqD (by omega))
  | .NotEq => op_ne.or (op_neD (by omega))
  | .Lt => op_lt
  | .LtE => op_le
  | .Gt => op_gt
  | .GtE => op_ge
  | .Is => op_isN
  | .IsNot => op_notN
  | .In => op_inA hu
  | .NotIn => op_notInA hu
theorem ok_co (op : CmpOp) {x y : V} {d e : D} {Q : VK} (w : Wd G own res S H) (r1 : Rep G H own res d x) (r2 : Rep G H own res e y) (q : Good G (relV G) own res H Q E (dCo op d e S)) : rCo X.K op x y H Q := by
  cases op with
  | Eq => exact ok_eq w r1 r2 q
  | NotEq => exact ok_ne w r1 r2 q
  | Lt => exact ok_cmp w r1 r2 q
  | LtE => exact ok_cmp w r1 r2 q
  | Gt => exact ok_cmp w r1 r2 q
  | GtE => exact ok_cmp w r1 r2 q
  | Is => exact ok_is w r1 r2 q
  | IsNot => exact ok_not w r1 r2 q
  | In => exact ok_in w r1 r2 q
  | NotIn => exact ok_notIn w r1 r2 q
theorem e_co (op : CmpOp) (hu : X.A.units + 65 < cLine) (hm : behindInMarks op b = false) (ha : PE X a (tG G (relV G) E fa)) (hb : PE X b (tG G (relV G) E fb)) : PE X (.Compare a [op] [b] pos) (tG G (relV G) E (bi2 (dCo op) fa fb)) :=
  e_cmp (op_co hu op) (fun _ _ _ _ _ _ _ _ _ w r1 r2 q => ok_co op w r1 r2 q) ha hb hm
theorem b_co (op : CmpOp) (hu : X.A.units + 65 < cLine) (hm : behindInMarks op b = false) (ha : PE X a (tG G (relV G) E fa)) (hb : PE X b (tG G (relV G) E fb)) : PT X (.Compare a [op] [b] pos) (tG G relB E (unB asB (bi2 (dCo op) fa fb))) :=
  b_cmp (op_co hu op) (fun _ _ _ _ _ _ _ _ _ w r1 r2 q => ok_co op w r1 r2 q) ha hb hm
/-- a op b op' c -/
def chn (op op' : CmpOp) (fa fb fc : Ex) : Ex := fun ρ S => (fa ρ S).bind fun x S1 => (fb ρ S1).bind fun y S2 => (dCo op x y S2).bind fun z S3 => match z with
  | .bl true => (fc ρ S3).bind fun u S4 => dCo op' y u S4
  | .bl false => .ok (.bl false) S3
  | _ => .bad
theorem co_pre (op : CmpOp) {d e : D} {S' : Sto} {z : D} (h : dCo op d e S = .ok z S') : S' = S := by
  have key : ∀ {r : R D}, (∃ x, r = .ok x S) ∨ r = .bad → r = .ok z S' → S' = S := fun {r} h e => by
    rcases h with ⟨x, h⟩ | h
    · rw [h] at e; cases e; rfl
    · rw [h] at e; cases e
  refine key (r := dCo op d e S) ?_ h
  cases op <;> (first
    | (show (∃ x, dEq d e S = .ok x S) ∨ dEq d e S = .bad; unfold dEq; (repeat' split) <;> first | exact .inr rfl | exact .inl ⟨_, rfl⟩)
    | (show (∃ x, dNe d e S = .ok x S) ∨ dNe d e S = .bad; unfold dNe; (repeat' split) <;> first | exact .inr rfl | exact .inl ⟨_, rfl⟩)
    | (show (∃ x, dCmp _ d e S = .ok x S) ∨ dCmp _ d e S = .bad; unfold dCmp; (repeat' split) <;> first | exact .inr rfl | exact .inl ⟨_, rfl⟩)
    | (show (∃ x, dIs d e S = .ok x S) ∨ dIs d e S = .bad; unfold dIs; (repeat' split) <;> first | exact .inr rfl | exact .inl ⟨_, rfl⟩)
    | (show (∃ x, dNot d e S = .ok x S) ∨ dNot d e S = .bad; unfold dNot; (repeat' split) <;> first | exact .inr rfl | exact .inl ⟨_, rfl⟩)
    | (show (∃ x, dIn _ d e S = .ok x S) ∨ dIn _ d e S = .bad; unfold dIn; (repeat' split) <;> first | exact .inr rfl | exact .inl ⟨_, rfl⟩))
theorem t_chn (op op' : CmpOp) {σ : L2.St} {H : Hp} {Q : VK} (h : tG G (relV G) E (chn op op' fa fb fc) σ H Q) : tChain (rCo X.K op) (rCo X.K op') (tG G (relV G) E fa) (tG G (relV G) E fb) (tG G (relV G) E fc) σ H Q := by
  obtain ⟨own, res, S, ρ, w, en, q⟩ := h
  refine ⟨own, res, S, ρ, w, en, (Good.bind (r1 := relV G) q).imp fun x H1 ⟨own1, S1, d, g1, w1, r1, q1⟩ => ?_⟩
  refine ⟨own1, res, S1, ρ, w1, en.grow g1, (Good.bind (r1 := relV G) q1).imp fun y H2 ⟨own2, S2, d2, g2, w2, r2, q2⟩ => ?_⟩
  refine ok_co (X := X) op w2 (r1.grow g2) r2 ((Good.bind (r1 := relV G) q2).imp fun z H3 ⟨own3, S3, d3, g3, w3, r3, q3⟩ => ?_)
  cases d3 with
  | bl k =>
    cases r3
    refine ⟨k, rfl, ?_⟩
    cases k with
    | true =>
      rw [if_pos rfl]
      refine ⟨own3, res, S3, ρ, w3, (en.grow g1).grow (g2.trans g3), (Good.bind (r1 := relV G) q3).imp fun u H4 ⟨own4, S4, d4, g4, w4, r4, q4⟩ => ?_⟩
      exact ok_co op' w4 (r2.grow (g3.trans g4)) r4 q4
    | false =>
      rw [if_neg (by simp)]
      exact q3.here w3 rfl
  | _ => exact q3.elim
theorem e_chn (op op' : CmpOp) (hu : X.A.units + 65 < cLine) (hm : lastMarks [op, op'] [b, c] = false) (ha : PE X a (tG G (relV G) E fa)) (hb : PE X b (tG G (relV G) E fb)) (hc : PE X c (tG G (relV G) E fc)) :
    PE X (.Compare a [op, op'] [b, c] pos) (tG G (relV G) E (chn op op' fa fb fc)) := pe_imp (pe_chain (op_co hu op) (op_co hu op') ha hb hc hm) fun _ _ _ => t_chn op op'
theorem b_chn (op op' : CmpOp) (hu : X.A.units + 65 < cLine) (hm : lastMarks [op, op'] [b, c] = false) (ha : PE X a (tG G (relV G) E fa)) (hb : PE X b (tG G (relV G) E fb)) (hc : PE X c (tG G (relV G) E fc)) :
    PT X (.Compare a [op, op'] [b, c] pos) (tG G relB E (unB asB (chn op op' fa fb fc))) := pt_imp (pt_chain (op_co hu op) (op_co hu op') ha hb hc hm) fun _ _ _ h => t_chn op op' (t_asB h)
end
end Ev
namespace Ev
open L2 PySem PySem.Spec PyProof.Rows

/-! ## places, cuts -/
/-- what is read as a list: a tree's, a cell's, the script's -/
def rdOf (S : Sto) : D → Option (List D)
  | .frz xs => some xs
  | .tup xs => some xs
  | d => lstOf S d
def keyOfD : D → Option Key
  | .int i => some (.inl i)
  | .str x => some (.inr x)
  | _ => none
/-- keys alike -/
def keq : D → D → Bool
  | .int i, .int j => decide (i = j)
  | .str x, .str y => decide (x = y)
  | _, _ => false
def dlook (k : D) : List D → List D → Option D
  | a :: ks, v :: vs => if keq a k = true then some v else dlook k ks vs
  | _, _ => none
/-- a dict's keys and values -/
def dctOf (S : Sto) : D → Option (List D × List D)
  | .dct ks vs => some (ks, vs)
  | .m k => match S[k]? with
    | some (.dct ks vs) => some (ks, vs)
    | _ => none
  | _ => none
def dIx (a i : D) (S : Sto) : R D := match dctOf S a with
  | some (ks, vs) => match keyOfD i, dlook i ks vs with
    | some _, some v => .ok v S
    | _, _ => .bad
  | none => match i with
    | .int k => match a with
      | .str z => match atI z.cps.toList k with
        | some c => if z.length ≤ 16777216 then .ok (.str ⟨#[c]⟩) S else .bad
        | none => .bad
      | a => match rdOf S a with
        | some xs => match atI xs k with
          | some d => .ok d S
          | none => .bad
        | none => .bad
    | _ => .bad
def cut {α : Type} (xs : List α) (lo hi : Option Int) : List α := (xs.drop (HT.sIx xs.length 0 lo)).take (HT.sIx xs.length xs.length hi - HT.sIx xs.length 0 lo)
def dSl (a : D) (lo hi : Option Int) (S : Sto) : R D := match a with
  | .tup xs => .ok (.tup (cut xs lo hi)) S
  | a => match (match a with | .frz xs => some xs | a => lstOf S a) with
    | some xs => .ok (.lst (cut xs lo hi)) S
    | none => .bad
def slE (f : Ex) (l u : ExO) : Ex := fun ρ S => (f ρ S).bind fun a S1 => (l ρ S1).bind fun lo S2 => (u ρ S2).bind fun hi S3 => dSl a lo hi S3
def opN : ExO := fun _ S => .ok none S
def opS (f : Ex) : ExO := fun ρ S => (f ρ S).bind fun d S1 => match d with
  | .int i => .ok (some i) S1
  | _ => .bad

section
variable {X : Cx} {G : Gc} {E : XK} {a b c e : Expr} {fa fb fc : Ex} {pos : Pos} {H : Hp} {own res : List Addr} {S : Sto}
theorem Rep.rdOf (K : PySem.W.Frag) (w : Wd G own res S H) {d : D} {v : V} (r : Rep G H own res d v) {ds : List D} (h : rdOf S d = some ds) : ∃ l vs, v = .ref l ∧ (SqL K H l vs ∨ SqT K H l vs) ∧ Reps G H own res ds vs := by
  cases d with
  | frz xs =>
    obtain ⟨l, o, vs, e, h1, _, _, h4⟩ := r
    cases h
    exact ⟨l, vs, e, .inl (.inl (.inr ⟨o, h1⟩)), h4⟩
  | tup xs =>
    obtain ⟨l, vs, e, h1, _, _, h4⟩ := r
    cases h
    exact ⟨l, vs, e, .inr (SqT.of h1), h4⟩
  | lst xs =>
    obtain ⟨l, vs, e, h1, h4⟩ := Rep.lstOf w r (show Ev.lstOf S (D.lst xs) = some ds from h)
    exact ⟨l, vs, e, .inl (SqL.of h1), h4⟩
  | m k =>
    obtain ⟨l, vs, e, h1, h4⟩ := Rep.lstOf w r (show Ev.lstOf S (D.m k) = some ds from h)
    exact ⟨l, vs, e, .inl (SqL.of h1), h4⟩
  | _ => cases h
theorem Rep.dctOf (w : Wd G own res S H) {d : D} {v : V} (r : Rep G H own res d v) {ks vs : List D} (h : dctOf S d = some (ks, vs)) : ∃ l kvs, v = .ref l ∧ H l = some (.dK kvs) ∧ ks = kvs.map (fun p => keyD p.1) ∧ Reps G H own res vs (kvs.map (·.2)) := by
  cases d with
  | dct ks' vs' =>
    obtain ⟨l, kvs, e, h1, _, _, h5, h4⟩ := r
    cases h
    exact ⟨l, kvs, e, h1, h5, h4⟩
  | m k =>
    obtain ⟨l, e, h1⟩ := r
    have h : (match S[k]? with | some (.dct ks vs) => some (ks, vs) | _ => none) = some (ks, vs) := h
    cases hk : S[k]? with
    | none => rw [hk] at h; cases h
    | some o =>
      rw [hk] at h
      cases o with
      | dct ks' vs' =>
        cases h
        obtain ⟨kvs, h2, h3, h4⟩ := w.cell k _ l hk h1
        exact ⟨l, kvs, e, h2, h3, h4⟩
      | lst _ => cases h
      | ndc _ _ => cases h
  | _ => cases h
theorem keq_key {k : Key} {k' : Key} : keq (keyD k) (keyD k') = decide (k = k') := by
  cases k <;> cases k' <;> simp [keq, keyD]
theorem keyOfD_at {d : D} {k : Key} (h : keyOfD d = some k) : d = keyD k := by
  cases d <;> cases h <;> rfl
theorem dlook_val {k : Key} : ∀ {kvs : List (Key × V)} {vs : List D} {d : D}, Reps G H own res vs (kvs.map (·.2)) → dlook (keyD k) (kvs.map fun p => keyD p.1) vs = some d → ∃ v, valV kvs k = some v ∧ Rep G H own res d v
  | [], vs, d, r, h => by cases vs <;> cases h
  | p :: kvs, [], d, r, h => by cases h
  | p :: kvs, x :: vs, d, r, h => by
    obtain ⟨v, w, e, h1, h2⟩ := r
    cases e
    have h : (if keq (keyD p.1) (keyD k) = true then some x else dlook (keyD k) (kvs.map fun p => keyD p.1) vs) = some d := h
    rw [keq_key] at h
    by_cases hk : p.1 = k
    · rw [if_pos (decide_eq_true hk)] at h
      cases h
      exact ⟨p.2, valV_pos hk, h1⟩
    · rw [if_neg (by simp [hk])] at h
      obtain ⟨v, a, b⟩ := dlook_val h2 h
      exact ⟨v, by rw [valV_neg hk]; exact a, b⟩
theorem dlook_none {k : Key} : ∀ {kvs : List (Key × V)} {vs : List D}, Reps G H own res vs (kvs.map (·.2)) → dlook (keyD k) (kvs.map fun p => keyD p.1) vs = none → valV kvs k = none
  | [], vs, r, h => rfl
  | p :: kvs, [], r, h => by
    have r : (p :: kvs).map (·.2) = [] := r
    cases r
  | p :: kvs, x :: vs, r, h => by
    obtain ⟨v, w, e, h1, h2⟩ := r
    cases e
    have h : (if keq (keyD p.1) (keyD k) = true then some x else dlook (keyD k) (kvs.map fun p => keyD p.1) vs) = none := h
    rw [keq_key] at h
    by_cases hk : p.1 = k
    · rw [if_pos (decide_eq_true hk)] at h
      cases h
    · rw [if_neg (by simp [hk])] at h
      rw [valV_neg hk]
      exact dlook_none h2 h
theorem keyV {k : Key} {v : V} (r : Rep G H own res (keyD k) v) : v = kV k := by
  cases k <;> exact r
theorem ix_dict (hu : X.A.units + 1 < cLine) : IxR X (fun x y H Q => ∃ a v, x = .ref a ∧ DGet H a y (some v) ∧ Q v H) := by
  intro value slice pins s σ H x y v u Q I rx ry h hs
  obtain ⟨a, w, ex, g, q⟩ := h
  subst ex
  obtain rfl : v = Value.ref a := rx
  exact tail_any (dict_typeIs I g) PySem.F.slot_dict_getitem.lookup (d_getItem hu I g ry fun w' s' I' rw' => ⟨w, H, I', rw', q⟩) hs
def rIxA (K : PySem.W.Frag) : R2 := fun x y H Q => rIx K x y H Q ∨ ∃ a v, x = .ref a ∧ DGet H a y (some v) ∧ Q v H
theorem atI_rep {ds : List D} {vs : List V} {i : Int} {d : D} (r : Reps G H own res ds vs) (h : atI ds i = some d) : ∃ v, atI vs i = some v ∧ Rep G H own res d v := by
  unfold atI at h ⊢
  rw [r.length] at h
  cases hi : ixN vs.length i with
  | none => rw [hi] at h; cases h
  | some j =>
    rw [hi] at h
    obtain ⟨v, a, b⟩ := r.get (show ds[j]? = some d from h)
    exact ⟨v, a, b⟩
theorem ok_ix {x y : V} {d e : D} {Q : VK} (w : Wd G own res S H) (r1 : Rep G H own res d x) (r2 : Rep G H own res e y) (q : Good G (relV G) own res H Q E (dIx d e S)) : rIxA X.K x y H Q := by
  unfold dIx at q
  split at q
  · rename_i ks vs hd
    obtain ⟨l, kvs, rfl, hl, rfl, rs⟩ := r1.dctOf w hd
    split at q
    · rename_i k dv h1 h2
      have e1 := keyOfD_at h1
      subst e1
      obtain ⟨v, a1, a2⟩ := dlook_val rs h2
      exact .inr ⟨l, v, rfl, by rw [keyV r2, ← a1]; exact DGet.k hl, q.here w a2⟩
    · exact q.elim
  · split at q
    · rename_i k
      cases r2
      split at q
      · rename_i z _
        cases r1
        split at q
        · rename_i cc hc
          split at q
          · rename_i hz
            exact .inl (.inr (.inr ⟨z, k, cc, rfl, rfl, line_eq hz, hc, q.here w rfl⟩))
          · exact q.elim
        · exact q.elim
      · split at q
        · rename_i xs hx
          split at q
          · rename_i dv hv
            obtain ⟨l, vs, rfl, hl, rs⟩ := r1.rdOf X.K w hx
            obtain ⟨v, a1, a2⟩ := atI_rep rs hv
            rcases hl with hl | hl
            · exact .inl (.inl ⟨l, vs, k, v, rfl, rfl, hl, a1, q.here w a2⟩)
            · exact .inl (.inr (.inl ⟨l, vs, k, v, rfl, rfl, hl, a1, q.here w a2⟩))
          · exact q.elim
        · exact q.elim
    · exact q.elim
theorem e_ix (hu : X.A.units + 1 < cLine) (hs : PlainIx b) (ha : PE X a (tG G (relV G) E fa)) (hb : PE X b (tG G (relV G) E fb)) : PE X (.Subscript a b pos) (tG G (relV G) E (bi2 dIx fa fb)) :=
  pe_imp (pe_ix (ix_seq.or (ix_dict hu)) ha hb hs) fun _ _ _ => t_bi fun _ _ _ _ _ _ _ _ _ w r1 r2 q => ok_ix w r1 r2 q
/-! ### cuts -/
theorem o_none : PO X none (tG G relO E opN) := po_imp po_none fun σ H Q ⟨own, res, S, ρ, w, en, q⟩ => q.here w rfl
theorem o_some (h : PE X e (tG G (relV G) E fa)) : PO X (some e) (tG G relO E (opS fa)) := po_imp (po_some h) fun σ H Q ⟨own, res, S, ρ, w, en, q⟩ =>
  ⟨own, res, S, ρ, w, en, (Good.bind (r1 := relV G) q).imp fun x H1 ⟨own1, S1, d, g1, w1, r1, q1⟩ => by
    cases d with
    | int i =>
      cases r1
      exact ⟨i, rfl, q1.here w1 rfl⟩
    | _ => exact q1.elim⟩
theorem cut_rep {ds : List D} {vs : List V} (r : Reps G H own res ds vs) (lo hi : Option Int) : Reps G H own res (cut ds lo hi) (cutV vs lo hi) := by
  unfold cut cutV
  rw [r.length]
  exact (r.drop _).take _
theorem ok_sl {x : V} {d : D} {lo hi : Option Int} {Q : VK} (w : Wd G own res S H) (r : Rep G H own res d x) (q : Good G (relV G) own res H Q E (dSl d lo hi S)) : rSlL X.K x lo hi H Q ∨ rSlA X.K x lo hi H Q := by
  unfold dSl at q
  split at q
  · rename_i xs
    obtain ⟨l, vs, rfl, hl, rs⟩ := r.tupOf
    refine .inr ⟨l, vs, rfl, SqT.of hl, fun hw => ?_, fun _ p hp => new_tup w (cut_rep rs lo hi) q hp⟩
    have e : cut xs lo hi = xs := by
      unfold cut
      rw [rs.length, hw.1, hw.2, Nat.sub_zero, List.drop_zero, ← rs.length, List.take_length]
    rw [e] at q
    exact q.here w r
  · split at q
    · rename_i xs hx
      have z : ∃ l vs, x = .ref l ∧ SqL X.K H l vs ∧ Reps G H own res xs vs := by
        split at hx
        · cases hx
          obtain ⟨l, o, vs, e, h1, _, _, h4⟩ := r
          exact ⟨l, vs, e, .inl (.inr ⟨o, h1⟩), h4⟩
        · obtain ⟨l, vs, e, h1, h4⟩ := r.lstOf w hx
          exact ⟨l, vs, e, SqL.of h1, h4⟩
      obtain ⟨l, vs, rfl, hl, rs⟩ := z
      exact .inl ⟨l, vs, rfl, hl, fun p hp => new_lst w (cut_rep rs lo hi) q hp⟩
    · exact q.elim
theorem e_sl {lo hi : Option Expr} {fl fh : ExO} {p2 : Pos} (ha : PE X a (tG G (relV G) E fa)) (hl : PO X lo (tG G relO E fl)) (hu : PO X hi (tG G relO E fh)) : PE X (.Subscript a (.Slice lo hi none p2) pos) (tG G (relV G) E (slE fa fl fh)) :=
  pe_imp (pe_slice (sl_list.or sl_tupA) ha hl hu) fun σ H Q ⟨own, res, S, ρ, w, en, q⟩ => by
    refine ⟨own, res, S, ρ, w, en, (Good.bind (r1 := relV G) q).imp fun x H1 ⟨own1, S1, d, g1, w1, r1, q1⟩ => ?_⟩
    refine ⟨own1, res, S1, ρ, w1, en.grow g1, (Good.bind (r1 := relO) q1).imp fun l H2 ⟨own2, S2, d2, g2, w2, r2, q2⟩ => ?_⟩
    refine ⟨own2, res, S2, ρ, w2, (en.grow g1).grow g2, (Good.bind (r1 := relO) q2).imp fun u H3 ⟨own3, S3, d3, g3, w3, r3, q3⟩ => ?_⟩
    cases r2; cases r3
    exact ok_sl w3 (r1.grow (g2.trans g3)) q3
end

/-! ## calls of built-in things -/
/-- a value's type, by its name -/
def tyOf (S : Sto) : D → Option String
  | .non => some "NoneType"
  | .bl _ => some "bool"
  | .int _ => some "int"
  | .str _ => some "str"
  | .lst _ | .frz _ => some "list"
  | .tup _ => some "tuple"
  | .dct _ _ => some "dict"
  | .m k => match S[k]? with
    | some (.lst _) => some "list"
    | some (.dct _ _) => some "dict"
    | _ => none
  | _ => none
def isKind (a b : String) : Bool := a == b || (a == "bool" && b == "int")
def basic : List String := ["NoneType", "bool", "int", "str", "list", "tuple", "dict"]
def dIsi (as : List D) (S : Sto) : R D := match as with
  | [x, .ty t] => match tyOf S x with
    | some a => if basic.contains t then .ok (.bl (isKind a t)) S else .bad
    | none => .bad
  | [x, .tup ts] => match tyOf S x with
    | some a => if ts.all (fun t => match t with | .ty t => basic.contains t | _ => false) then .ok (.bl (ts.any fun t => match t with | .ty t => isKind a t | _ => false)) S else .bad
    | none => .bad
  | _ => .bad
def dLen (as : List D) (S : Sto) : R D := match as with
  | [.str z] => if z.length ≤ 16777216 then .ok (.int z.length) S else .bad
  | [x] => match rdOf S x with
    | some xs => .ok (.int xs.length) S
    | none => match dctOf S x with
      | some (ks, _) => .ok (.int ks.length) S
      | none => .bad
  | _ => .bad
def blsOf : List D → Option (List Bool)
  | [] => some []
  | .bl b :: ds => (blsOf ds).map fun bs => b :: bs
  | _ :: _ => none
def intsOf : List D → Option (List Int)
  | [] => some []
  | .int b :: ds => (intsOf ds).map fun bs => b :: bs
  | _ :: _ => none
def liOf (S : Sto) : D → Option (List D)
  | .frz xs => some xs
  | d => lstOf S d
def dAll (as : List D) (S : Sto) : R D := match as with
  | [x] => match (liOf S x).bind blsOf with
    | some bs => .ok (.bl (bs.all id)) S
    | none => .bad
  | _ => .bad
def dAny (as : List D) (S : Sto) : R D := match as with
  | [x] => match (liOf S x).bind blsOf with
    | some bs => .ok (.bl (bs.any id)) S
    | none => .bad
  | _ => .bad
def dSum (as : List D) (S : Sto) : R D := match as with
  | [x] => match (liOf S x).bind intsOf with
    | some bs => .ok (.int bs.sum) S
    | none => .bad
  | _ => .bad
def dAbs (as : List D) (S : Sto) : R D := match as with
  | [.int i] => .ok (.int (if i < 0 then -i else i)) S
  | _ => .bad
def dInt (as : List D) (S : Sto) : R D := match as with
  | [.int i] => .ok (.int i) S
  | [.bl b] => .ok (.int (if b then 1 else 0)) S
  | _ => .bad
/-- list(x), tuple(x); as a cell -/
def dList (mk : List D → Sto → R D) (as : List D) (S : Sto) : R D := match as with
  | [x] => match rdOf S x with
    | some xs => mk xs S
    | none => match dctOf S x with
      | some (ks, _) => mk ks S
      | none => .bad
  | _ => .bad
def dTuple (as : List D) (S : Sto) : R D := match as with
  | [.tup xs] => .ok (.tup xs) S
  | [x] => match liOf S x with
    | some xs => .ok (.tup xs) S
    | none => .bad
  | _ => .bad

section
variable {X : Cx} {G : Gc} {E : XK} {a b c e : Expr} {fa fb fc : Ex} {pos p : Pos} {H : Hp} {own res : List Addr} {S : Sto}
theorem Reps.one' {d : D} {vs : List V} (r : Reps G H own res [d] vs) : ∃ v, vs = [v] ∧ Rep G H own res d v := by
  obtain ⟨v, w, rfl, h1, h2⟩ := r
  have h2 : w = [] := h2
  rw [h2]
  exact ⟨v, rfl, h1⟩
theorem Reps.two' {d d2 : D} {vs : List V} (r : Reps G H own res [d, d2] vs) : ∃ v v2, vs = [v, v2] ∧ Rep G H own res d v ∧ Rep G H own res d2 v2 := by
  obtain ⟨v, w, rfl, h1, h2⟩ := r
  obtain ⟨v2, rfl, h3⟩ := h2.one'
  exact ⟨v, v2, rfl, h1, h3⟩
theorem Rep.ty (K : PySem.W.Frag) (w : Wd G own res S H) {d : D} {v : V} (r : Rep G H own res d v) {t : String} (h : tyOf S d = some t) : TyX K H v (.type t) := by
  cases d with
  | non => cases r; cases h; exact .base .non
  | bl _ => cases r; cases h; exact .base (.bl _)
  | int _ => cases r; cases h; exact .base (.int _)
  | str _ => cases r; cases h; exact .base (.str _)
  | lst _ => obtain ⟨a, vs, rfl, h1, _⟩ := r; cases h; exact .base (.lst h1)
  | tup _ => obtain ⟨a, vs, rfl, h1, _⟩ := r; cases h; exact .base (.tup h1)
  | frz _ => obtain ⟨a, o, vs, rfl, h1, _⟩ := r; cases h; exact .base (.frz h1)
  | dct _ _ => obtain ⟨a, kvs, rfl, h1, _⟩ := r; cases h; exact .base (.dK h1)
  | m k =>
    obtain ⟨a, rfl, h1⟩ := r
    have h : (match S[k]? with | some (.lst _) => some "list" | some (.dct _ _) => some "dict" | _ => none) = some t := h
    cases hk : S[k]? with
    | none => rw [hk] at h; cases h
    | some o =>
      rw [hk] at h
      cases o with
      | lst xs =>
        cases h
        obtain ⟨vs, h2, _⟩ := w.cell k _ a hk h1
        exact .base (.lst h2)
      | dct ks vs =>
        cases h
        obtain ⟨kvs, h2, _⟩ := w.cell k _ a hk h1
        exact .base (.dK h2)
      | ndc _ _ => cases h
  | fn _ => cases h
  | cl _ => cases h
  | ty _ => cases h
theorem tyOf_basic {d : D} {t : String} (h : tyOf S d = some t) : t ∈ basic := by
  cases d with
  | m k =>
    have h : (match S[k]? with | some (.lst _) => some "list" | some (.dct _ _) => some "dict" | _ => none) = some t := h
    cases hk : S[k]? with
    | none => rw [hk] at h; cases h
    | some o =>
      rw [hk] at h
      cases o <;> cases h <;> simp [basic]
  | _ => first | (cases h; simp [basic]; done) | cases h
theorem kit_all : (basic.all fun a => basic.all fun b => kitB a b == some (isKind a b)) = true := by decide +kernel
theorem kit_at {a b : String} (ha : a ∈ basic) (hb : basic.contains b = true) : kitB a b = some (isKind a b) := by
  have h := List.all_eq_true.mp (List.all_eq_true.mp kit_all a ha) b (by simpa using hb)
  simpa using h
theorem ok_isi {xs : List V} {ds : List D} {Q : VK} (w : Wd G own res S H) (r : Reps G H own res ds xs) (q : Good G (relV G) own res H Q E (dIsi ds S)) : rIsi X.K xs H Q ∨ rIsiT X.K xs H Q := by
  unfold dIsi at q
  split at q
  · rename_i x t
    obtain ⟨v, v2, rfl, h1, h2⟩ := r.two'
    split at q
    · rename_i a ha
      split at q
      · rename_i hb
        cases h2
        exact .inl ⟨v, .ty t, .type a, .type t, _, rfl, .ty t, h1.ty X.K w ha, kit_ty (kit_at (tyOf_basic ha) hb), q.here w rfl⟩
      · exact q.elim
    · exact q.elim
  · rename_i x ts
    obtain ⟨v, v2, rfl, h1, h2⟩ := r.two'
    split at q
    · rename_i a ha
      split at q
      · rename_i hb
        obtain ⟨l, vs, rfl, hl, rs⟩ := h2.tupOf
        have key : ∀ (ts : List D) (vs : List V), Reps G H own res ts vs → (ts.all fun t => match t with | .ty t => basic.contains t | _ => false) = true →
            ∃ us, Paired ClsV vs us ∧ PySem.W.kitAny X.K (.type a) us = some (ts.any fun t => match t with | .ty t => isKind a t | _ => false) := by
          intro ts
          induction ts with
          | nil =>
            intro vs r _
            have r : vs = [] := r
            subst r
            exact ⟨[], .nil, kitAny_nil⟩
          | cons t ts ih =>
            intro vs r hb
            obtain ⟨v, w', rfl, q1, q2⟩ := r
            rw [List.all_cons, Bool.and_eq_true] at hb
            obtain ⟨us, p1, p2⟩ := ih w' q2 hb.2
            cases t with
            | ty n =>
              cases q1
              refine ⟨.type n :: us, .cons (.ty n) p1, kitAny_cons (kit_ty (kit_at (tyOf_basic ha) hb.1)) (fun hf => ?_) (fun ht => ?_)⟩
              · rw [List.any_cons]
                show _ = some (isKind a n || _)
                rw [hf]; exact p2
              · rw [List.any_cons]
                show (isKind a n || _) = true
                rw [ht]; rfl
            | _ => exact absurd hb.1 (by simp)
        obtain ⟨us, p1, p2⟩ := key ts vs rs hb
        exact .inr ⟨v, l, vs, .type a, us, _, rfl, hl, p1, h1.ty X.K w ha, p2, q.here w rfl⟩
      · exact q.elim
    · exact q.elim
  · exact q.elim
theorem ok_len {xs : List V} {ds : List D} {Q : VK} (w : Wd G own res S H) (r : Reps G H own res ds xs) (q : Good G (relV G) own res H Q E (dLen ds S)) :
    (∃ x n, xs = [x] ∧ LenV X.K x H n ∧ Q (.int n) H) ∨ ∃ a kvs, xs = [V.ref a] ∧ H a = some (.dK kvs) ∧ Q (.int kvs.length) H := by
  unfold dLen at q
  split at q
  · rename_i z
    obtain ⟨v, rfl, h1⟩ := r.one'
    cases h1
    split at q
    · rename_i hz
      exact .inl ⟨_, _, rfl, ⟨line_eq hz, rfl⟩, q.here w rfl⟩
    · exact q.elim
  · rename_i x _
    obtain ⟨v, rfl, h1⟩ := r.one'
    split at q
    · rename_i ys hx
      obtain ⟨l, vs, rfl, hl, rs⟩ := h1.rdOf X.K w hx
      refine .inl ⟨_, ys.length, rfl, ?_, q.here w rfl⟩
      rcases hl with hl | hl
      · exact .inl ⟨vs, hl, rs.length⟩
      · exact .inr ⟨vs, hl, rs.length⟩
    · split at q
      · rename_i ks vs hd
        obtain ⟨l, kvs, rfl, hl, rfl, rs⟩ := h1.dctOf w hd
        rw [List.length_map] at q
        exact .inr ⟨l, kvs, rfl, hl, q.here w rfl⟩
      · exact q.elim
  · exact q.elim
theorem Rep.liOf (K : PySem.W.Frag) (w : Wd G own res S H) {d : D} {v : V} (r : Rep G H own res d v) {ds : List D} (h : liOf S d = some ds) : ∃ l vs, v = .ref l ∧ SqL K H l vs ∧ Reps G H own res ds vs := by
  cases d with
  | frz xs =>
    obtain ⟨l, o, vs, e, h1, _, _, h4⟩ := r
    cases h
    exact ⟨l, vs, e, .inl (.inr ⟨o, h1⟩), h4⟩
  | lst xs =>
    obtain ⟨l, vs, e, h1, h4⟩ := Rep.lstOf w r (show Ev.lstOf S (D.lst xs) = some ds from h)
    exact ⟨l, vs, e, SqL.of h1, h4⟩
  | m k =>
    obtain ⟨l, vs, e, h1, h4⟩ := Rep.lstOf w r (show Ev.lstOf S (D.m k) = some ds from h)
    exact ⟨l, vs, e, SqL.of h1, h4⟩
  | _ => cases h
theorem bls_rep : ∀ {ds : List D} {vs : List V} {bs : List Bool}, Reps G H own res ds vs → blsOf ds = some bs → vs = bs.map V.bl
  | [], vs, bs, r, h => by
    have r : vs = [] := r
    cases h; rw [r]; rfl
  | d :: ds, vs, bs, r, h => by
    obtain ⟨v, w, rfl, h1, h2⟩ := r
    cases d with
    | bl b =>
      cases h1
      obtain ⟨cs, q1, q2⟩ := Option.map_eq_some_iff.mp (show (blsOf ds).map (fun bs => b :: bs) = some bs from h)
      subst q2
      rw [bls_rep h2 q1]; rfl
    | _ => cases h
theorem ints_rep : ∀ {ds : List D} {vs : List V} {bs : List Int}, Reps G H own res ds vs → intsOf ds = some bs → vs = bs.map V.int
  | [], vs, bs, r, h => by
    have r : vs = [] := r
    cases h; rw [r]; rfl
  | d :: ds, vs, bs, r, h => by
    obtain ⟨v, w, rfl, h1, h2⟩ := r
    cases d with
    | int b =>
      cases h1
      obtain ⟨cs, q1, q2⟩ := Option.map_eq_some_iff.mp (show (intsOf ds).map (fun bs => b :: bs) = some bs from h)
      subst q2
      rw [ints_rep h2 q1]; rfl
    | _ => cases h
theorem ok_all {xs : List V} {ds : List D} {Q : VK} (w : Wd G own res S H) (r : Reps G H own res ds xs) (q : Good G (relV G) own res H Q E (dAll ds S)) : rAll X.K xs H Q := by
  unfold dAll at q
  split at q
  · obtain ⟨v, rfl, h1⟩ := r.one'
    split at q
    · rename_i bs hb
      obtain ⟨ys, h2, h3⟩ := Option.bind_eq_some_iff.mp hb
      obtain ⟨l, vs, rfl, hl, rs⟩ := h1.liOf X.K w h2
      exact ⟨l, bs, rfl, by rw [← bls_rep rs h3]; exact hl, q.here w rfl⟩
    · exact q.elim
  · exact q.elim
theorem ok_any {xs : List V} {ds : List D} {Q : VK} (w : Wd G own res S H) (r : Reps G H own res ds xs) (q : Good G (relV G) own res H Q E (dAny ds S)) : rAny X.K xs H Q := by
  unfold dAny at q
  split at q
  · obtain ⟨v, rfl, h1⟩ := r.one'
    split at q
    · rename_i bs hb
      obtain ⟨ys, h2, h3⟩ := Option.bind_eq_some_iff.mp hb
      obtain ⟨l, vs, rfl, hl, rs⟩ := h1.liOf X.K w h2
      exact ⟨l, bs, rfl, by rw [← bls_rep rs h3]; exact hl, q.here w rfl⟩
    · exact q.elim
  · exact q.elim
theorem ok_sum {xs : List V} {ds : List D} {Q : VK} (w : Wd G own res S H) (r : Reps G H own res ds xs) (q : Good G (relV G) own res H Q E (dSum ds S)) : rSum X.K xs H Q := by
  unfold dSum at q
  split at q
  · obtain ⟨v, rfl, h1⟩ := r.one'
    split at q
    · rename_i bs hb
      obtain ⟨ys, h2, h3⟩ := Option.bind_eq_some_iff.mp hb
      obtain ⟨l, vs, rfl, hl, rs⟩ := h1.liOf X.K w h2
      exact ⟨l, bs, rfl, by rw [← ints_rep rs h3]; exact hl, q.here w rfl⟩
    · exact q.elim
  · exact q.elim
theorem ok_abs {xs : List V} {ds : List D} {Q : VK} (w : Wd G own res S H) (r : Reps G H own res ds xs) (q : Good G (relV G) own res H Q E (dAbs ds S)) : ∃ i, xs = [.int i] ∧ Q (.int (if i < 0 then -i else i)) H := by
  unfold dAbs at q
  split at q
  · obtain ⟨v, rfl, h1⟩ := r.one'
    cases h1
    exact ⟨_, rfl, q.here w rfl⟩
  · exact q.elim
theorem ok_int {xs : List V} {ds : List D} {Q : VK} (w : Wd G own res S H) (r : Reps G H own res ds xs) (q : Good G (relV G) own res H Q E (dInt ds S)) : (∃ i, xs = [.int i] ∧ Q (.int i) H) ∨ ∃ k, xs = [.bl k] ∧ Q (.int (if k then 1 else 0)) H := by
  unfold dInt at q
  split at q
  · obtain ⟨v, rfl, h1⟩ := r.one'
    cases h1
    exact .inl ⟨_, rfl, q.here w rfl⟩
  · obtain ⟨v, rfl, h1⟩ := r.one'
    cases h1
    exact .inr ⟨_, rfl, q.here w rfl⟩
  · exact q.elim
theorem ok_tuple {xs : List V} {ds : List D} {Q : VK} (w : Wd G own res S H) (r : Reps G H own res ds xs) (q : Good G (relV G) own res H Q E (dTuple ds S)) :
    ∃ p ys, xs = [.ref p] ∧ ((SqL X.K H p ys ∧ ∀ l, H l = none → Q (.ref l) (upd H l (.tup ys))) ∨ (SqT X.K H p ys ∧ Q (.ref p) H)) := by
  unfold dTuple at q
  split at q
  · obtain ⟨v, rfl, h1⟩ := r.one'
    obtain ⟨l, vs, rfl, hl, rs⟩ := h1.tupOf
    exact ⟨l, vs, rfl, .inr ⟨SqT.of hl, q.here w h1⟩⟩
  · obtain ⟨v, rfl, h1⟩ := r.one'
    split at q
    · rename_i ys hx
      obtain ⟨l, vs, rfl, hl, rs⟩ := h1.liOf X.K w hx
      exact ⟨l, vs, rfl, .inl ⟨hl, fun p hp => new_tup w rs q hp⟩⟩
    · exact q.elim
  · exact q.elim
/-- a call f(e, ..) of a built-in function, by its rule -/
theorem e_callB {x : Str} {id : String} {r : List V → Hp → VK → Prop} {g : List D → Sto → R D} {es : List Expr} {fl : ExL} (hc : CallR X (.builtin id) r)
    (hp : ∀ own res S H xs ds Q, Wd G own res S H → Reps G H own res ds xs → Good G (relV G) own res H Q E (g ds S) → r xs H Q) (hg : Gl X x) (hm : X.mg x = none) (hv : bootBuiltins x = some (.builtin id)) (ha : PA X (e :: es) (tG G (relL G) E fl))
    (hn : x ≠ "__name__") (hdb : (x == ("__debug__" : Str)) = false) (he : starEach (e :: es) X.env = (false, eval e X.env) :: starEach es X.env) (hpl : (backTo pos (starEach es X.env)).any (·.1) = false) :
    PE X (.Call (.Name x p) (e :: es) [] pos) (tG G (relV G) E (ofL g fl)) := pe_imp (pe_callB hc hg hm hv ha hn hdb he hpl) fun _ _ _ => t_ofL hp
theorem e_callT {x : Str} {T : String} {r : List V → Hp → VK → Prop} {g : List D → Sto → R D} {es : List Expr} {fl : ExL} (hc : CallR X (.type T) r)
    (hp : ∀ own res S H xs ds Q, Wd G own res S H → Reps G H own res ds xs → Good G (relV G) own res H Q E (g ds S) → r xs H Q) (hg : Gl X x) (hm : X.mg x = none) (hv : bootBuiltins x = some (.type T)) (ha : PA X (e :: es) (tG G (relL G) E fl))
    (hn : x ≠ "__name__") (hdb : (x == ("__debug__" : Str)) = false) (he : starEach (e :: es) X.env = (false, eval e X.env) :: starEach es X.env) (hpl : (backTo pos (starEach es X.env)).any (·.1) = false) :
    PE X (.Call (.Name x p) (e :: es) [] pos) (tG G (relV G) E (ofL g fl)) := pe_imp (pe_callTy hc hg hm hv ha hn hdb he hpl) fun _ _ _ => t_ofL hp
end
end Ev
namespace Ev
open L2 PySem PySem.Spec PyProof.Rows

/-! ## statements -/
inductive Fl where
  | nx (ρ : Env)
  | rt (d : D)
  | bk (ρ : Env)
  | ct (ρ : Env)
abbrev Sm := Env → Sto → R Fl
section
variable (G : Gc)
def GoodS (own res : List Addr) (H : Hp) (Dn : Ends) (E : XK) : R Fl → Prop
  | .ok (.nx ρ) S => ∀ own' H' σ', Grow own H own' H' → Wd G own' res S H' → EnvR G H' own' res σ' ρ → Dn.nx σ' H'
  | .ok (.bk ρ) S => ∀ own' H' σ', Grow own H own' H' → Wd G own' res S H' → EnvR G H' own' res σ' ρ → Dn.bk σ' H'
  | .ok (.ct ρ) S => ∀ own' H' σ', Grow own H own' H' → Wd G own' res S H' → EnvR G H' own' res σ' ρ → Dn.ct σ' H'
  | .ok (.rt d) S => ∀ own' H' x, Grow own H own' H' → Wd G own' res S H' → Rep G H' own' res d x → Dn.rt x H'
  | .ex c as S => ∀ own' H' cls dx, Grow own H own' H' → Wd G own' res S H' → ExR G c as cls dx H' own' res → E cls dx H'
  | .bad => False
def tS (E : XK) (f : Sm) : TS := fun Dn σ H => ∃ own res S ρ, Wd G own res S H ∧ EnvR G H own res σ ρ ∧ GoodS G own res H Dn E (f ρ S)
end
def skp : Sm := fun ρ S => .ok (.nx ρ) S
def fol (g : Sm) : Fl → Sto → R Fl := fun fl S => match fl with
  | .nx ρ => g ρ S
  | fl => .ok fl S
def sq (f g : Sm) : Sm := fun ρ S => (f ρ S).bind (fol g)
def ret (f : Ex) : Sm := fun ρ S => (f ρ S).bind fun d S1 => .ok (.rt d) S1
def dro (f : Ex) : Sm := fun ρ S => (f ρ S).bind fun _ S1 => .ok (.nx ρ) S1
def ifS (c : ExB) (a b : Sm) : Sm := fun ρ S => (c ρ S).bind fun t S1 => if t = true then a ρ S1 else b ρ S1
def brk : Sm := fun ρ S => .ok (.bk ρ) S
def cnt : Sm := fun ρ S => .ok (.ct ρ) S
/-- targets -/
abbrev Bn := D → Env → Option Env
def bnN (i : Nat) : Bn := fun d ρ => some (ρ.set i (some d))
abbrev Bns := List D → Env → Option Env
def bnsN : Bns := fun ds ρ => match ds with
  | [] => some ρ
  | _ => none
def bnsC (b : Bn) (r : Bns) : Bns := fun ds ρ => match ds with
  | d :: ds => (b d ρ).bind fun ρ1 => r ds ρ1
  | [] => none
def bnT (n : Nat) (b : Bns) : Bn := fun d ρ => match d with
  | .tup ds => if ds.length = n then b ds ρ else none
  | _ => none
def asg (f : Ex) (b : Bn) : Sm := fun ρ S => (f ρ S).bind fun d S1 => match b d ρ with
  | some ρ1 => .ok (.nx ρ1) S1
  | none => .bad

section
variable {X : Cx} {G : Gc} {E : XK} {a b c e : Expr} {fa fb fc : Ex} {pos p : Pos} {H H1 : Hp} {own own1 res : List Addr} {S : Sto} {Dn : Ends}
theorem ps_imp {s : Stmt} {t t' : TS} (h : PS X s t) (i : ∀ D σ H, t' D σ H → t D σ H) : PS X s t' := ⟨fun pins s σ H D I hw => h.run pins s σ H D I (i D σ H hw)⟩
theorem pss_imp {s : List Stmt} {t t' : TS} (h : PSs X s t) (i : ∀ D σ H, t' D σ H → t D σ H) : PSs X s t' := ⟨fun pins s σ H D I hw => h.run pins s σ H D I (i D σ H hw)⟩
theorem GoodS.grow (g : Grow own H own1 H1) : ∀ {r : R Fl}, GoodS G own res H Dn E r → GoodS G own1 res H1 Dn E r
  | .ok (.nx _) _, h => fun o2 H2 x g2 w r => h o2 H2 x (g.trans g2) w r
  | .ok (.bk _) _, h => fun o2 H2 x g2 w r => h o2 H2 x (g.trans g2) w r
  | .ok (.ct _) _, h => fun o2 H2 x g2 w r => h o2 H2 x (g.trans g2) w r
  | .ok (.rt _) _, h => fun o2 H2 x g2 w r => h o2 H2 x (g.trans g2) w r
  | .ex _ _ _, h => fun o2 H2 c d g2 w r => h o2 H2 c d (g.trans g2) w r
  | .bad, h => h
/-- an expression, then the rest of a statement -/
theorem GoodS.bind {α β : Type} {r1 : Rel α β} {g : α → Sto → R Fl} : ∀ {r : R α}, GoodS G own res H Dn E (r.bind g) →
    Good G r1 own res H (fun x H1 => ∃ own1 S1 a, Grow own H own1 H1 ∧ Wd G own1 res S1 H1 ∧ r1 H1 own1 res a x ∧ GoodS G own1 res H1 Dn E (g a S1)) E r
  | .ok a S, h => fun o2 H2 x g2 w r => ⟨o2, S, a, g2, w, r, GoodS.grow g2 h⟩
  | .ex _ _ _, h => h
  | .bad, h => h
/-- a statement, then the rest -/
theorem GoodS.seq {g : Sm} : ∀ {r : R Fl}, GoodS G own res H Dn E (r.bind (fol g)) → GoodS G own res H { Dn with nx := tS G E g Dn } E r
  | .ok (.nx ρ) S, h => fun o2 H2 x g2 w r => ⟨o2, res, S, ρ, w, r, GoodS.grow g2 h⟩
  | .ok (.bk _) _, h => h
  | .ok (.ct _) _, h => h
  | .ok (.rt _) _, h => h
  | .ex _ _ _, h => h
  | .bad, h => h
theorem s_nil : PSs X [] (tS G E skp) := pss_imp pss_nil fun D σ H ⟨own, res, S, ρ, w, en, q⟩ => q own H σ (Grow.refl _ _) w en
theorem s_cons {st : Stmt} {rest : List Stmt} {f g : Sm} (h1 : PS X st (tS G E f)) (h2 : PSs X rest (tS G E g)) : PSs X (st :: rest) (tS G E (sq f g)) :=
  pss_imp (pss_cons h1 h2) fun D σ H ⟨own, res, S, ρ, w, en, q⟩ => ⟨own, res, S, ρ, w, en, q.seq⟩
theorem s_one {st : Stmt} {f : Sm} (h1 : PS X st (tS G E f)) : PSs X [st] (tS G E f) := pss_one h1
theorem s_ret (ha : PE X a (tG G (relV G) E fa)) : PS X (.Return (some a) pos) (tS G E (ret fa)) :=
  ps_imp (ps_ret ha) fun D σ H ⟨own, res, S, ρ, w, en, q⟩ => ⟨own, res, S, ρ, w, en, (GoodS.bind (r1 := relV G) q).imp fun x H1 ⟨own1, S1, d, g1, w1, r1, q1⟩ => q1 own1 H1 x (Grow.refl _ _) w1 r1⟩
theorem s_retN : PS X (.Return none pos) (tS G E (ret (cst .non))) :=
  ps_imp ps_retN fun D σ H ⟨own, res, S, ρ, w, en, q⟩ => q own H .non (Grow.refl _ _) w rfl
theorem s_dro (ha : PE X a (tG G (relV G) E fa)) (hs : swapsWith a none pos.line X.env = pure false) : PS X (.Expr a pos) (tS G E (dro fa)) :=
  ps_imp (ps_expr ha hs) fun D σ H ⟨own, res, S, ρ, w, en, q⟩ => ⟨own, res, S, ρ, w, en, (GoodS.bind (r1 := relV G) q).imp fun x H1 ⟨own1, S1, d, g1, w1, r1, q1⟩ => q1 own1 H1 σ (Grow.refl _ _) w1 (en.grow g1)⟩
theorem s_ifS {c : Expr} {t : ExB} {sa sb : List Stmt} {f g : Sm} (hc : PT X c (tG G relB E t)) (ha : PSs X sa (tS G E f)) (hb : PSs X sb (tS G E g)) : PS X (.If c sa sb pos) (tS G E (ifS t f g)) :=
  ps_imp (ps_if hc ha hb) fun D σ H ⟨own, res, S, ρ, w, en, q⟩ => ⟨own, res, S, ρ, w, en, (GoodS.bind (r1 := relB) q).imp fun x H1 ⟨own1, S1, d, g1, w1, r1, q1⟩ => by
    cases r1
    cases x with
    | true => exact ⟨own1, res, S1, ρ, w1, en.grow g1, q1⟩
    | false => exact ⟨own1, res, S1, ρ, w1, en.grow g1, q1⟩⟩
theorem s_brk : PS X (.Break pos) (tS G E brk) := ps_imp ps_break fun D σ H ⟨own, res, S, ρ, w, en, q⟩ => q own H σ (Grow.refl _ _) w en
theorem s_cnt : PS X (.Continue pos) (tS G E cnt) := ps_imp ps_continue fun D σ H ⟨own, res, S, ρ, w, en, q⟩ => q own H σ (Grow.refl _ _) w en
theorem s_pass : PS X (.Pass pos) (tS G E skp) := ps_imp ps_pass fun D σ H ⟨own, res, S, ρ, w, en, q⟩ => q own H σ (Grow.refl _ _) w en
/-! ### targets -/
/-- the slots but these are as they were -/
structure But (sl : List Nat) (σ σ' : L2.St) : Prop where
  len : σ'.length = σ.length
  out : ∀ j, j ∉ sl → σ'[j]? = σ[j]?
theorem But.refl (sl : List Nat) (σ : L2.St) : But sl σ σ := ⟨rfl, fun _ _ => rfl⟩
theorem But.trans {sl sl' sl2 : List Nat} {σ σ' σ2 : L2.St} (a : But sl σ σ') (b : But sl' σ' σ2) (h1 : ∀ j, j ∈ sl → j ∈ sl2) (h2 : ∀ j, j ∈ sl' → j ∈ sl2) : But sl2 σ σ2 :=
  ⟨b.len.trans a.len, fun j n => (b.out j fun z => n (h2 j z)).trans (a.out j fun z => n (h1 j z))⟩
def GOk (G : Gc) (bn : Bn) (sl : List Nat) (g : TG) : Prop := ∀ own res S H σ ρ d v ρ' (Q : L2.St → Hp → Prop), Wd G own res S H → EnvR G H own res σ ρ → Rep G H own res d v → bn d ρ = some ρ' → (∀ σ', EnvR G H own res σ' ρ' → But sl σ σ' → Q σ' H) → g v σ H Q
def GsOk (G : Gc) (bn : Bns) (sl : List Nat) (g : TGs) : Prop := ∀ own res S H σ ρ d v ρ' (Q : L2.St → Hp → Prop), Wd G own res S H → EnvR G H own res σ ρ → Reps G H own res d v → bn d ρ = some ρ' → (∀ σ', EnvR G H own res σ' ρ' → But sl σ σ' → Q σ' H) → g v σ H Q
theorem g_name (i : Nat) : GOk G (bnN i) [i] (gName i) := fun own res S H σ ρ d v ρ' Q w en r h q => by
  cases h
  exact q _ (en.set r) ⟨by simp, fun j n => by rw [List.getElem?_set_ne (fun z => n (by simp [z]))]⟩
theorem gs_nil : GsOk G bnsN [] gNil := fun own res S H σ ρ d v ρ' Q w en r h q => by
  cases d with
  | nil =>
    cases h
    exact ⟨r, q _ en (But.refl _ _)⟩
  | cons _ _ => cases h
theorem gs_cons {bn : Bn} {bs : Bns} {g : TG} {gs : TGs} {sl sl' : List Nat} (h1 : GOk G bn sl g) (h2 : GsOk G bs sl' gs) : GsOk G (bnsC bn bs) (sl ++ sl') (gCons g gs) := fun own res S H σ ρ d v ρ' Q w en r h q => by
  cases d with
  | nil => cases h
  | cons x ds =>
    obtain ⟨u, us, rfl, r1, r2⟩ := r
    obtain ⟨ρ1, e1, e2⟩ := Option.bind_eq_some_iff.mp (show ((bn x ρ).bind fun ρ1 => bs ds ρ1) = some ρ' from h)
    exact ⟨u, us, rfl, h1 own res S H σ ρ x u ρ1 _ w en r1 e1 fun σ1 en1 b1 => h2 own res S H σ1 ρ1 ds us ρ' Q w en1 r2 e2 fun σ2 en2 b2 => q σ2 en2 (b1.trans b2 (fun j z => List.mem_append_left _ z) fun j z => List.mem_append_right _ z)⟩
theorem g_tup {K : PySem.W.Frag} {n : Nat} {bs : Bns} {gs : TGs} {sl : List Nat} (h : GsOk G bs sl gs) : GOk G (bnT n bs) sl (gTup K n gs) := fun own res S H σ ρ d v ρ' Q w en r hb q => by
  cases d with
  | tup ds =>
    have hb : (if ds.length = n then bs ds ρ else none) = some ρ' := hb
    by_cases hn : ds.length = n
    · rw [if_pos hn] at hb
      obtain ⟨l, vs, rfl, hl, rs⟩ := r.tupOf
      exact ⟨l, vs, rfl, SqT.of hl, by rw [← rs.length]; exact hn, h own res S H σ ρ ds vs ρ' Q w en rs hb q⟩
    · rw [if_neg hn] at hb
      cases hb
  | _ => cases hb
theorem t_asg {bn : Bn} {g : TG} {sl : List Nat} (hg : GOk G bn sl g) {σ : L2.St} (h : tS G E (asg fa bn) Dn σ H) : tAsg (tG G (relV G) E fa) g Dn σ H := by
  obtain ⟨own, res, S, ρ, w, en, q⟩ := h
  refine ⟨own, res, S, ρ, w, en, (GoodS.bind (r1 := relV G) q).imp fun x H1 ⟨own1, S1, d, g1, w1, r1, q1⟩ => ?_⟩
  cases hb : bn d ρ with
  | none =>
    simp only [hb] at q1
    exact q1.elim
  | some ρ1 =>
    simp only [hb] at q1
    exact hg own1 res S1 H1 σ ρ d x ρ1 _ w1 (en.grow g1) r1 hb fun σ' en' _ => q1 own1 H1 σ' (Grow.refl _ _) w1 en'
/-- name = value -/
theorem s_set {i : Nat} {x : Str} {pos' : Pos} (hN : X.N.Nodup) (hi : X.N[i]? = some x) (hx : Loc X.env.scope x) (ha : PE X a (tG G (relV G) E fa)) (hs : swapsWith a (some (.Name x pos')) pos.line X.env = pure false)
    (hf : X.fn x = true ∨ X.env.scope.names.lookup x = some .local) : PS X (.Assign [.Name x pos'] a pos) (tS G E (asg fa (bnN i))) := ps_imp (ps_set hN hi hx ha hs hf) fun _ _ _ => t_asg (g_name i)
/-- target = value -/
theorem s_asg {tg : Expr} {bn : Bn} {g : TG} {sl : List Nat} (hg : PG X tg g) (ok : GOk G bn sl g) (ha : PE X a (tG G (relV G) E fa)) (hs : swapsWithSole [tg] a pos.line X.env = pure false) (hw : swappedStores [tg] a X.env = pure none)
    (h1 : (assignEach [tg] X.env).map (·.2) = [assign tg X.env]) : PS X (.Assign [tg] a pos) (tS G E (asg fa bn)) := ps_imp (ps_asg ha hg hs hw h1) fun _ _ _ => t_asg ok
end

/-! ## what is walked -/
inductive Src where
  | seq (d : D)
  | enm (d : D)
  | zip (d e : D)
  | rng (lo : Int) (n : Nat)
  | txt (z : Str)
/-- the i-th item: none where the source is none; some none behind the last -/
def Src.at : Src → Sto → Nat → Option (Option D)
  | .seq d, S, i => (rdOf S d).map fun xs => xs[i]?
  | .enm d, S, i => (rdOf S d).map fun xs => (xs[i]?).map fun x => .tup [.int (i : Nat), x]
  | .zip d e, S, i => match rdOf S d, rdOf S e with
    | some xs, some ys => match xs[i]?, ys[i]? with
      | some x, some y => some (some (.tup [x, y]))
      | _, _ => some none
    | _, _ => none
  | .rng lo n, _, i => some (if i < n then some (.int (lo + i)) else none)
  | .txt z, _, i => some ((z.cps[i]?).map fun c => .str ⟨#[c]⟩)
/-- more than its turns, if it stays as it is -/
def Src.len : Src → Sto → Nat
  | .seq d, S => ((rdOf S d).getD []).length + 1
  | .enm d, S => ((rdOf S d).getD []).length + 1
  | .zip d e, S => min ((rdOf S d).getD []).length ((rdOf S e).getD []).length + 1
  | .rng _ n, _ => n + 1
  | .txt z, _ => z.cps.size + 1
/-- the iterator J goes as the source says, in all states that come -/
def SrcR (G : Gc) (H : Hp) (own res : List Addr) (s : Src) (J : It) : Prop := ∀ own' H' res' S', Grow own H own' H' → (∀ a, a ∈ res' → a ∈ res ∨ H a = none) → Wd G own' res' S' H' → ∀ i,
  (s.at S' i = some none → J.stop i H') ∧
  ∀ x, s.at S' i = some (some x) → J.go i H' ∧ ∀ v H'', J.yld i H' v H'' → Grow own' H' own' H'' ∧ Wd G own' res' S' H'' ∧ Rep G H'' own' res' x v ∧ ∀ p, H' p ≠ none → H'' p = H' p
abbrev relS (G : Gc) : Rel Src It := fun H own res s J => SrcR G H own res s J
abbrev ExS := Env → Sto → R Src
/-- a for's turns -/
def forX (s : Src) (bn : Bn) (body : Sm) : Nat → Nat → Env → Sto → R Fl
  | 0, _, _, _ => .bad
  | n + 1, i, ρ, S => match s.at S i with
    | none => .bad
    | some none => .ok (.nx ρ) S
    | some (some x) => match bn x ρ with
      | none => .bad
      | some ρ1 => (body ρ1 S).bind fun fl S1 => match fl with
        | .nx ρ2 => forX s bn body n (i + 1) ρ2 S1
        | .ct ρ2 => forX s bn body n (i + 1) ρ2 S1
        | .bk ρ2 => .ok (.nx ρ2) S1
        | .rt d => .ok (.rt d) S1
def forS (f : ExS) (bn : Bn) (body : Sm) : Sm := fun ρ S => (f ρ S).bind fun s S1 => forX s bn body (s.len S1) 0 ρ S1
/-- a comprehension's turns -/
def lcX (s : Src) (bn : Bn) (c : ExB) (f : Ex) (ρ : Env) : Nat → Nat → Sto → List D → R (List D)
  | 0, _, _, _ => .bad
  | n + 1, i, S, acc => match s.at S i with
    | none => .bad
    | some none => .ok acc S
    | some (some x) => match bn x ρ with
      | none => .bad
      | some ρ1 => (c ρ1 S).bind fun t S1 => if t = true then (f ρ1 S1).bind fun y S2 => if acc.length < 16777216 then lcX s bn c f ρ n (i + 1) S2 (acc ++ [y]) else .bad else lcX s bn c f ρ n (i + 1) S1 acc
def wipeD (ρ : Env) : List Nat → Env
  | [] => ρ
  | v :: vs => (wipeD ρ vs).set v none
def lcE (mk : List D → Sto → R D) (vs : List Nat) (fs : ExS) (bn : Bn) (c : ExB) (f : Ex) : Ex := fun ρ S => (fs ρ S).bind fun s S1 => (lcX s bn c f (wipeD ρ vs) (s.len S1) 0 S1 []).bind mk
def yes : ExB := fun _ S => .ok true S
/-- a while's turns: at most so many -/
def whX (c : ExB) (body : Sm) : Nat → Env → Sto → R Fl
  | 0, _, _ => .bad
  | n + 1, ρ, S => (c ρ S).bind fun t S1 => if t = true then (body ρ S1).bind fun fl S2 => match fl with
      | .nx ρ2 => whX c body n ρ2 S2
      | .ct ρ2 => whX c body n ρ2 S2
      | .bk ρ2 => .ok (.nx ρ2) S2
      | .rt d => .ok (.rt d) S2
    else .ok (.nx ρ) S1
def whS (n : Nat) (c : ExB) (body : Sm) : Sm := whX c body n

section
variable {X : Cx} {G : Gc} {E : XK} {a b c e : Expr} {fa fb fc : Ex} {pos p : Pos} {H H1 : Hp} {own own1 res : List Addr} {S : Sto} {Dn : Ends}
theorem wipe_env {σ : L2.St} {ρ : Env} (h : EnvR G H own res σ ρ) : ∀ vs : List Nat, EnvR G H own res (wipe σ vs) (wipeD ρ vs)
  | [] => h
  | v :: vs => by
    have ih := wipe_env h vs
    refine ⟨?_, fun i d hi => ?_⟩
    · unfold wipe wipeD
      simpa using ih.le
    · unfold wipeD at hi
      unfold wipe
      by_cases hv : v = i
      · subst hv
        by_cases hlt : v < (wipeD ρ vs).length
        · rw [List.getElem?_set_self hlt] at hi
          cases hi
        · rw [List.getElem?_eq_none (by simp; omega)] at hi
          cases hi
      · rw [List.getElem?_set_ne hv] at hi ⊢
        exact ih.at_ i d hi
theorem s_for {tg iter : Expr} {body : List Stmt} {wi : TI} {g : TG} {bn : Bn} {sl : List Nat} {fs : ExS} {f : Sm} (hp : PassesOwn (model X.prog X.w) X.A X.env X.xe) (hc : X.calm = true) (hi : PI X tg iter (tG G (relS G) E fs)) (hg : PG X tg g) (ok : GOk G bn sl g) (hb : PSs X body (tS G E f))
    (hs : ∀ x, foldedSetIterable iter X.env x = pure x) : PS X (.For tg iter body [] pos) (tS G E (forS fs bn f)) :=
  ps_imp (ps_for hp hc hi hg hb hs) fun D σ H ⟨own, res, S, ρ, w, en, q⟩ => by
    refine ⟨own, res, S, ρ, w, en, (GoodS.bind (r1 := relS G) q).imp fun J H1 ⟨own1, S1, s, g1, w1, r1, q1⟩ => ?_⟩
    refine ⟨fun i m σ H => ∃ own2 S2 ρ2, Grow own1 H1 own2 H ∧ Wd G own2 res S2 H ∧ EnvR G H own2 res σ ρ2 ∧ GoodS G own2 res H D E (forX s bn f m i ρ2 S2), ⟨s.len S1, own1, S1, ρ, Grow.refl _ _, w1, en.grow g1, q1⟩, ?_⟩
    rintro i m σ2 H2 ⟨own2, S2, ρ2, g2, w2, en2, q2⟩
    cases m with
    | zero => exact q2.elim
    | succ m =>
      obtain ⟨stp, go⟩ := r1 own2 H2 res S2 g2 (fun a h => .inl h) w2 i
      unfold forX at q2
      cases ha : s.at S2 i with
      | none => rw [ha] at q2; exact q2.elim
      | some o =>
        rw [ha] at q2
        cases o with
        | none => exact .inl ⟨stp ha, q2 own2 H2 σ2 (Grow.refl _ _) w2 en2⟩
        | some x =>
          obtain ⟨hgo, hy⟩ := go x ha
          refine .inr ⟨hgo, fun σ' H' => ∃ own2 S2 ρ2, Grow own1 H1 own2 H' ∧ Wd G own2 res S2 H' ∧ EnvR G H' own2 res σ' ρ2 ∧ GoodS G own2 res H' D E (forX s bn f m (i + 1) ρ2 S2), fun σ' H' z => ⟨m, Nat.lt_succ_self m, z⟩, fun v H3 y => ?_⟩
          obtain ⟨g3, w3, r3, _⟩ := hy v H3 y
          have q2 : GoodS G own2 res H2 D E (match bn x ρ2 with
            | none => .bad
            | some ρ1 => (f ρ1 S2).bind fun fl S1 => match fl with
              | .nx ρ2 => forX s bn f m (i + 1) ρ2 S1
              | .ct ρ2 => forX s bn f m (i + 1) ρ2 S1
              | .bk ρ2 => .ok (.nx ρ2) S1
              | .rt d => .ok (.rt d) S1) := q2
          cases hbn : bn x ρ2 with
          | none => rw [hbn] at q2; exact q2.elim
          | some ρ3 =>
            rw [hbn] at q2
            refine ok own2 res S2 H3 σ2 ρ2 x v ρ3 _ w3 (en2.grow g3) r3 hbn fun σ4 en4 _ => ⟨own2, res, S2, ρ3, w3, en4, ?_⟩
            have q2 := GoodS.grow g3 q2
            dsimp only at q2
            have gg : Grow own1 H1 own2 H3 := g2.trans g3
            cases hr : f ρ3 S2 with
            | bad => rw [hr] at q2; exact q2
            | ex c as S5 => rw [hr] at q2; exact q2
            | ok fl S5 =>
              rw [hr] at q2
              cases fl with
              | nx ρ5 => exact fun o5 H5 σ5 g5 w5 e5 => ⟨o5, S5, ρ5, gg.trans g5, w5, e5, GoodS.grow g5 q2⟩
              | ct ρ5 => exact fun o5 H5 σ5 g5 w5 e5 => ⟨o5, S5, ρ5, gg.trans g5, w5, e5, GoodS.grow g5 q2⟩
              | bk ρ5 => exact fun o5 H5 σ5 g5 w5 e5 => q2 o5 H5 σ5 g5 w5 e5
              | rt d => exact q2
theorem s_while {cnd : Expr} {body : List Stmt} {t : ExB} {f : Sm} (n : Nat) (hp : PassesOwn (model X.prog X.w) X.A X.env X.xe) (hc : PT X cnd (tG G relB E t)) (hb : PSs X body (tS G E f)) : PS X (.While cnd body [] pos) (tS G E (whS n t f)) :=
  ps_imp (ps_while hp hc hb) fun D σ H ⟨own, res, S, ρ, w, en, q⟩ => by
    refine ⟨fun m σ2 H2 => ∃ own2 S2 ρ2, Grow own H own2 H2 ∧ Wd G own2 res S2 H2 ∧ EnvR G H2 own2 res σ2 ρ2 ∧ GoodS G own2 res H2 D E (whX t f m ρ2 S2), ⟨n, own, S, ρ, Grow.refl _ _, w, en, q⟩, ?_⟩
    rintro m σ2 H2 ⟨own2, S2, ρ2, g2, w2, en2, q2⟩
    cases m with
    | zero => exact q2.elim
    | succ m =>
      unfold whX at q2
      refine ⟨own2, res, S2, ρ2, w2, en2, (GoodS.bind (r1 := relB) q2).imp fun x H3 ⟨own3, S3, d, g3, w3, r3, q3⟩ => ?_⟩
      cases r3
      cases x with
      | false => exact q3 own3 H3 σ2 (Grow.refl _ _) w3 (en2.grow g3)
      | true =>
        rw [if_pos rfl]
        refine ⟨fun σ' H' => ∃ own2 S2 ρ2, Grow own H own2 H' ∧ Wd G own2 res S2 H' ∧ EnvR G H' own2 res σ' ρ2 ∧ GoodS G own2 res H' D E (whX t f m ρ2 S2), fun σ' H' z => ⟨m, Nat.lt_succ_self m, z⟩, own3, res, S3, ρ2, w3, en2.grow g3, ?_⟩
        have gg : Grow own H own3 H3 := g2.trans g3
        rw [if_pos rfl] at q3
        cases hr : f ρ2 S3 with
        | bad => rw [hr] at q3; exact q3
        | ex c as S5 => rw [hr] at q3; exact q3
        | ok fl S5 =>
          rw [hr] at q3
          cases fl with
          | nx ρ5 => exact fun o5 H5 σ5 g5 w5 e5 => ⟨o5, S5, ρ5, gg.trans g5, w5, e5, GoodS.grow g5 q3⟩
          | ct ρ5 => exact fun o5 H5 σ5 g5 w5 e5 => ⟨o5, S5, ρ5, gg.trans g5, w5, e5, GoodS.grow g5 q3⟩
          | bk ρ5 => exact fun o5 H5 σ5 g5 w5 e5 => q3 o5 H5 σ5 g5 w5 e5
          | rt d => exact q3
end
end Ev
namespace Ev
open L2 PySem PySem.Spec PyProof.Rows

/-! ## comprehensions -/
/-- an answer that is no exception -/
def noex {α : Type} : R α → R α
  | .ok a S => .ok a S
  | _ => .bad
def lcN (mk : List D → Sto → R D) (vs : List Nat) (fs : ExS) (bn : Bn) (c : ExB) (f : Ex) : Ex := fun ρ S => (fs ρ S).bind fun s S1 => (noex (lcX s bn c f (wipeD ρ vs) (s.len S1) 0 S1 [])).bind mk
theorem noex_bind {α β : Type} (r : R α) (g : α → Sto → R β) : noex (r.bind g) = (noex r).bind fun a S => noex (g a S) := by
  cases r <;> rfl
abbrev E0 : XK := fun _ _ _ => False
section
variable {X : Cx} {G : Gc} {E : XK} {a b c e : Expr} {fa fb fc : Ex} {pos p : Pos} {H H1 : Hp} {own own1 res : List Addr} {S : Sto} {Dn : Ends}
theorem wipe_at (σ : L2.St) : ∀ (vs : List Nat) (j : Nat), (wipe σ vs)[j]? = if j ∈ vs then (if j < σ.length then some none else none) else σ[j]?
  | [], j => by simp [wipe]
  | v :: vs, j => by
    unfold wipe
    have ih := wipe_at σ vs j
    by_cases h : v = j
    · subst h
      by_cases hl : v < σ.length
      · rw [List.getElem?_set_self (by rw [wipe_length]; exact hl)]
        simp [hl]
      · rw [List.getElem?_eq_none (by simp [wipe_length]; omega)]
        simp [hl]
    · rw [List.getElem?_set_ne h, ih]
      have : (j ∈ v :: vs) ↔ j ∈ vs := by simp [Ne.symm h]
      simp only [this]
theorem wipe_but {σ σ2 : L2.St} {sl vs : List Nat} (h : But sl (wipe σ vs) σ2) (hs : ∀ i, i ∈ sl → i ∈ vs) : wipe σ2 vs = wipe σ vs := by
  refine List.ext_getElem? fun j => ?_
  have hl : σ2.length = σ.length := by rw [h.len, wipe_length]
  rw [wipe_at, wipe_at, hl]
  by_cases hj : j ∈ vs
  · rw [if_pos hj, if_pos hj]
  · rw [if_neg hj, if_neg hj, h.out j fun z => hj (hs j z), wipe_at, if_neg hj]
/-- what is being made no longer -/
theorem Wd.less {d : Addr} (w : Wd G own (d :: res) S H) : Wd G own res S H :=
  ⟨w.len, w.nod, fun a h z => w.dis a h (List.mem_cons_of_mem _ z), fun k o a h1 h2 => by
    have cc := w.cell k o a h1 h2
    exact cc.mono (fun _ _ e _ _ _ => e) (fun _ _ _ n _ _ => n) (fun a z => .inl (List.mem_cons_of_mem _ z)) (fun _ _ e => e) rfl, fun a z => w.rest a (List.mem_cons_of_mem _ z), w.tabs⟩
theorem Reps.less {d : Addr} {ds : List D} {vs : List V} (r : Reps G H own (d :: res) ds vs) : Reps G H own res ds vs :=
  Reps.mono (fun _ _ e _ _ _ => e) (fun _ _ _ n _ _ => n) (fun a z => .inl (List.mem_cons_of_mem _ z)) (fun _ _ e => e) _ _ r
/-- something new is being made -/
theorem Wd.more {d : Addr} {o : HO} (w : Wd G own res S H) (hd : H d = none) (ho : ∀ ps, o ≠ .tbl ps) : Wd G own (d :: res) S (upd H d o) := by
  have w1 : Wd G own res S (upd H d o) := w.laid hd
  have nd := (w.fresh hd).1
  refine ⟨w1.len, w1.nod, fun a h z => ?_, fun k ob a h1 h2 => ?_, fun a z => ?_, w1.tabs⟩
  · rcases List.mem_cons.mp z with z | z
    · exact nd (z ▸ h)
    · exact w1.dis a h z
  · have cc := w.cell k ob a h1 h2
    obtain ⟨u, hu, _⟩ := cc.there
    exact cc.mono (fun b ob eb _ _ _ => by rw [upd_ne (ne_of_none eb hd)]; exact eb) (fun _ _ _ n _ _ => n) (fun b z => (List.mem_cons.mp z).elim (fun z => .inr (by rw [z]; exact hd)) .inl) (fun _ _ e => e) (by rw [upd_ne (ne_of_none hu hd)])
  · rcases List.mem_cons.mp z with z | z
    · exact ⟨o, by rw [z, upd_same], ho⟩
    · exact w1.rest a z
theorem Rep.more {d : Addr} {o : HO} {x : D} {v : V} (r : Rep G H own res x v) (hd : H d = none) : Rep G (upd H d o) own (d :: res) x v :=
  Rep.mono (fun b ob eb _ _ _ => by rw [upd_ne (ne_of_none eb hd)]; exact eb) (fun _ _ _ n _ _ => n) (fun b z => (List.mem_cons.mp z).elim (fun z => .inr (by rw [z]; exact hd)) .inl) (fun _ _ e => e) x v r
/-- what is being made is written -/
theorem Wd.made {d : Addr} {o : HO} (w : Wd G own (d :: res) S H) (ho : ∀ ps, o ≠ .tbl ps) (hn : ∀ u, H d = some u → (∀ ps, u ≠ .tbl ps) ∧ ∀ q, u ≠ LamX.CodeO d q) : Wd G own (d :: res) S (upd H d o) := by
  have k : ∀ b u, b ≠ d → H b = some u → upd H d o b = some u := fun b u n e => by rw [upd_ne n]; exact e
  have nd : d ∉ own := fun z => w.dis d z List.mem_cons_self
  refine ⟨w.len, w.nod, w.dis, fun kk ob a h1 h2 => ?_, fun a z => ?_, fun q hq => ?_⟩
  · have cc := w.cell kk ob a h1 h2
    exact cc.mono (fun b u eb _ nr _ => k b u (fun z => nr (by rw [z]; exact List.mem_cons_self)) eb) (fun _ _ _ n _ _ => n) (fun b z => .inl z) (fun _ _ e => e) (by rw [upd_ne (fun z => by subst z; exact nd (List.mem_of_getElem? h2))])
  · by_cases hz : a = d
    · exact ⟨o, by rw [hz, upd_same], ho⟩
    · obtain ⟨u, eu, t⟩ := w.rest a z
      exact ⟨u, k a u hz eu, t⟩
  · obtain ⟨ps, h1, h2, h3⟩ := w.tabs q hq
    refine ⟨ps, k _ _ (fun z => by subst z; exact (hn _ h1).1 ps rfl) h1, h2, fun pos cv hc => ?_⟩
    obtain ⟨c0, e1, e2⟩ := h3 pos cv hc
    exact ⟨c0, e1, k _ _ (fun z => by subst z; exact (hn _ e2).2 _ rfl) e2⟩
theorem lst_hn {d : Addr} {vs : List V} (h : H d = some (.lst vs)) : ∀ u, H d = some u → (∀ ps, u ≠ .tbl ps) ∧ ∀ q, u ≠ LamX.CodeO d q := fun u e => by
  rw [h] at e
  cases e
  exact ⟨fun ps z => (by cases z), fun q z => (by unfold LamX.CodeO at z; cases z)⟩
theorem Reps.made {d : Addr} {o : HO} {ds : List D} {vs : List V} (r : Reps G H own (d :: res) ds vs) : Reps G (upd H d o) own (d :: res) ds vs :=
  Reps.mono (fun b u eb _ nr _ => by rw [upd_ne (fun z => nr (by rw [z]; exact List.mem_cons_self))]; exact eb) (fun _ _ _ n _ _ => n) (fun b z => .inl z) (fun _ _ e => e) _ _ r
theorem Rep.made {d : Addr} {o : HO} {x : D} {v : V} (r : Rep G H own (d :: res) x v) : Rep G (upd H d o) own (d :: res) x v :=
  Rep.mono (fun b u eb _ nr _ => by rw [upd_ne (fun z => nr (by rw [z]; exact List.mem_cons_self))]; exact eb) (fun _ _ _ n _ _ => n) (fun b z => .inl z) (fun _ _ e => e) _ _ r
theorem EnvR.made {d : Addr} {o : HO} {σ : L2.St} {ρ : Env} (h : EnvR G H own (d :: res) σ ρ) : EnvR G (upd H d o) own (d :: res) σ ρ := ⟨h.le, fun i x e => by
  obtain ⟨v, h1, r⟩ := h.at_ i x e
  exact ⟨v, h1, r.made⟩⟩
/-- how the made list is handed on -/
def MkOk (G : Gc) (E : XK) (mk : List D → Sto → R D) : Prop := ∀ own1 H1 own res S H (d : Addr) ds vs (Q : VK), Grow own1 H1 own H → Wd G own (d :: res) S H → H d = some (.lst vs) → H1 d = none → d ∉ res → Reps G H own (d :: res) ds vs →
  Good G (relV G) own1 res H1 Q E (mk ds S) → Q (.ref d) H
theorem mk_L : MkOk G E mkL := fun own1 H1 own res S H d ds vs Q g w hd h1 hr r q => by
  unfold mkL at q
  split at q
  · exact q own H _ g w.less ⟨d, vs, rfl, hd, fun z => w.dis d z List.mem_cons_self, hr, r.less⟩
  · exact q.elim
theorem Wd.mine {d : Addr} {ds : List D} {vs : List V} (w : Wd G own (d :: res) S H) (hd : H d = some (.lst vs)) (hr : d ∉ res) (r : Reps G H own (d :: res) ds vs) : Wd G (own ++ [d]) res (S ++ [.lst ds]) H := by
  have nd : d ∉ own := fun z => w.dis d z List.mem_cons_self
  have n : ∀ a (o : HO), H a = some o → a ∉ own → a ∉ d :: res → (∀ ps, o ≠ .tbl ps) → a ∉ own ++ [d] := fun a o _ h1 h2 _ z => (List.mem_append.mp z).elim h1 fun z => h2 (by rw [List.mem_singleton.mp z]; exact List.mem_cons_self)
  have c : ∀ (i : Nat) a, own[i]? = some a → (own ++ [d])[i]? = some a := fun i a e => by
    obtain ⟨hk, _⟩ := List.getElem?_eq_some_iff.mp e
    rw [List.getElem?_append_left hk]
    exact e
  refine ⟨by simp [w.len], List.nodup_append.mpr ⟨w.nod, by simp, fun a ha b hb => ?_⟩, fun a h z => ?_, fun k o a h1 h2 => ?_, fun a z => w.rest a (List.mem_cons_of_mem _ z), w.tabs⟩
  · rw [List.mem_singleton.mp hb]
    rintro rfl
    exact nd ha
  · rcases List.mem_append.mp h with y | y
    · exact w.dis a y (List.mem_cons_of_mem _ z)
    · rw [List.mem_singleton.mp y] at z; exact hr z
  · by_cases hk : k < S.length
    · rw [List.getElem?_append_left hk] at h1
      rw [List.getElem?_append_left (by rw [w.len]; exact hk)] at h2
      exact (w.cell k o a h1 h2).mono (fun _ _ e _ _ _ => e) n (fun a z => .inl (List.mem_cons_of_mem _ z)) c rfl
    · have hk2 : k = S.length := by
        have := (List.getElem?_eq_some_iff.mp h1).1
        simp at this
        omega
      subst hk2
      rw [List.getElem?_append_right (Nat.le_refl _)] at h1
      rw [← w.len, List.getElem?_append_right (Nat.le_refl _)] at h2
      simp at h1 h2
      subst h1 h2
      exact ⟨vs, hd, Reps.mono (fun _ _ e _ _ _ => e) n (fun a z => .inl (List.mem_cons_of_mem _ z)) c _ _ r⟩
theorem mk_C : MkOk G E mkC := fun own1 H1 own res S H d ds vs Q g w hd h1 hr r q => by
  unfold mkC at q
  split at q
  · refine q (own ++ [d]) H _ ⟨?_, fun a o h n t => ?_, fun a h n o e => ?_⟩ (w.mine hd hr r) ⟨d, rfl, ?_⟩
    · obtain ⟨t, e⟩ := g.pre
      exact ⟨t ++ [d], by rw [e, List.append_assoc]⟩
    · exact g.keep a o h n t
    · rcases List.mem_append.mp h with z | z
      · exact g.new a z n o e
      · rw [List.mem_singleton.mp z, h1] at e; cases e
    · rw [← w.len, List.getElem?_append_right (Nat.le_refl _)]
      simp
  · exact q.elim
/-! ### the rule -/
theorem noex_E {α β : Type} {rel : Rel α β} {Q : β → Hp → Prop} {r : R α} (h : Good G rel own res H Q E (noex r)) : Good G rel own res H Q E0 r := by
  cases r with
  | ok a S => exact h
  | ex c as S => exact h.elim
  | bad => exact h
theorem t_lc {mk : List D → Sto → R D} {vs : List Nat} {fs : ExS} {bn : Bn} {sl : List Nat} {c : ExB} {f : Ex} {g : TG} (hm : MkOk G E mk) (ok : GOk G bn sl g) (hsl : ∀ i, i ∈ sl → i ∈ vs) {σ : L2.St} {Q : VK} (h : tG G (relV G) E (lcN mk vs fs bn c f) σ H Q) :
    tLc (tG G (relS G) E fs) g (tG G relB E0 c) (tG G (relV G) E0 f) vs σ H Q := by
  obtain ⟨own, res, S, ρ, w, en, q⟩ := h
  refine ⟨own, res, S, ρ, w, en, (Good.bind (r1 := relS G) q).imp fun J H1 ⟨own1, S1, s, g1, w1, r1, q1⟩ => ?_⟩
  intro d hd
  have hdr : d ∉ res := (w1.fresh hd).2
  have nd1 : d ∉ own1 := (w1.fresh hd).1
  have en1 : EnvR G H1 own1 res (wipe σ vs) (wipeD ρ vs) := wipe_env (en.grow g1) vs
  generalize wipeD ρ vs = ρw at q1 en1
  refine ⟨fun i m H2 => ∃ own2 S2 acc va, Grow own1 H1 own2 H2 ∧ Wd G own2 (d :: res) S2 H2 ∧ EnvR G H2 own2 (d :: res) (wipe σ vs) ρw ∧ H2 d = some (.lst va) ∧ Reps G H2 own2 (d :: res) acc va ∧
    Good G (relV G) own1 res H1 Q E ((noex (lcX s bn c f ρw m i S2 acc)).bind mk), ⟨s.len S1, own1, S1, [], [], Grow.laid hd nd1, w1.more hd (fun ps z => by cases z), ⟨en1.le, fun i x e => ?_⟩, upd_same, rfl, q1⟩, ?_⟩
  · obtain ⟨v, h1, r⟩ := en1.at_ i x e
    exact ⟨v, h1, r.more hd⟩
  rintro i m H2 ⟨own2, S2, acc, va, g2, w2, en2, hd2, ra, q2⟩
  cases m with
  | zero => exact q2.elim
  | succ m =>
    obtain ⟨stp, go⟩ := r1 own2 H2 (d :: res) S2 g2 (fun a h => (List.mem_cons.mp h).elim (fun z => .inr (by rw [z]; exact hd)) .inl) w2 i
    unfold lcX at q2
    cases ha : s.at S2 i with
    | none => rw [ha] at q2; exact q2.elim
    | some o =>
      rw [ha] at q2
      cases o with
      | none => exact .inl ⟨stp ha, hm own1 H1 own2 res S2 H2 d acc va Q g2 w2 hd2 hd hdr ra q2⟩
      | some x =>
        obtain ⟨hgo, hy⟩ := go x ha
        refine .inr ⟨hgo, fun H' => ∃ own2 S2 acc va, Grow own1 H1 own2 H' ∧ Wd G own2 (d :: res) S2 H' ∧ EnvR G H' own2 (d :: res) (wipe σ vs) ρw ∧ H' d = some (.lst va) ∧ Reps G H' own2 (d :: res) acc va ∧
          Good G (relV G) own1 res H1 Q E ((noex (lcX s bn c f ρw m (i + 1) S2 acc)).bind mk), fun H' z => ⟨m, Nat.lt_succ_self m, z⟩, fun v H3 y => ?_⟩
        obtain ⟨g3, w3, r3, k3⟩ := hy v H3 y
        dsimp only at q2
        cases hbn : bn x ρw with
        | none => rw [hbn] at q2; exact q2.elim
        | some ρ3 =>
          rw [hbn] at q2
          dsimp only at q2
          refine ok own2 (d :: res) S2 H3 (wipe σ vs) ρw x v ρ3 _ w3 (en2.grow g3) r3 hbn fun σ4 en4 b4 => ⟨wipe_but b4 hsl, own2, d :: res, S2, ρ3, w3, en4, ?_⟩
          have hd3 : H3 d = some (.lst va) := by rw [k3 d (by rw [hd2]; exact fun z => by cases z)]; exact hd2
          have ra3 := ra.grow g3
          have en3 := en2.grow g3
          have gg : Grow own1 H1 own2 H3 := g2.trans g3
          cases hc : c ρ3 S2 with
          | bad => rw [hc] at q2; exact q2
          | ex cc as S5 => rw [hc] at q2; exact q2.elim
          | ok t S5 =>
            rw [hc] at q2
            intro o5 H5 b g5 w5 rb
            have hb : t = b := rb
            subst hb
            have hd5 : H5 d = some (.lst va) := by
              have nd2 : d ∉ own2 := fun z => w3.dis d z List.mem_cons_self
              exact g5.stay hd3 nd2 (fun ps z => by cases z)
            cases t with
            | false => exact ⟨o5, S5, acc, va, gg.trans g5, w5, en3.grow g5, hd5, ra3.grow g5, q2⟩
            | true =>
              rw [if_pos rfl]
              refine ⟨o5, d :: res, S5, ρ3, w5, en4.grow g5, ?_⟩
              dsimp only [R.bind] at q2
              rw [if_pos rfl] at q2
              cases hf : f ρ3 S5 with
              | bad => rw [hf] at q2; exact q2
              | ex cc as S6 => rw [hf] at q2; exact q2.elim
              | ok yv S6 =>
                rw [hf] at q2
                dsimp only [R.bind] at q2
                intro o6 H6 yx g6 w6 ry
                have nd5 : d ∉ o5 := fun z => w5.dis d z List.mem_cons_self
                have hd6 : H6 d = some (.lst va) := g6.stay hd5 nd5 (fun ps z => by cases z)
                have ra6 : Reps G H6 o6 (d :: res) acc va := (ra3.grow g5).grow g6
                by_cases hz : acc.length < 16777216
                · rw [if_pos hz] at q2
                  refine ⟨va, hd6, by rw [← ra6.length, sizeLine_eq]; exact hz, o6, S6, acc ++ [yv], va ++ [yx], ?_, w6.made (fun ps z => by cases z) (lst_hn hd6), ((en3.grow g5).grow g6).made, upd_same, (ra6.append (Reps.one ry)).made, q2⟩
                  have g7 := (gg.trans g5).trans g6
                  exact ⟨g7.pre, fun a o h n t => by rw [upd_ne (ne_of_none h hd)]; exact g7.keep a o h n t, g7.new⟩
                · rw [if_neg hz] at q2
                  exact q2.elim
end
end Ev
namespace Ev
open L2 PySem PySem.Spec PyProof.Rows

/-! ## enumerate of a list or of a tuple -/
/-- enumerate(v): its iterator, its own record -/
theorem enumNew {v : Value} {oi : Obj} {Ok : Heap → Prop} (B : Begins v oi Ok) :
    Meets (Builtin.«enumerate.__new__» ⟨[.type "enumerate", v], []⟩) (fun _ Rq s => Ok s.heap ∧
      Rq (.ok (.ret (.ref (s.heap.push oi).objs.size))) { s with heap := (s.heap.push oi).push { cls := .type "enumerate", data := .fields #[.none, .bool false, .ref s.heap.objs.size, rawInt 0, .none, .none] } }) :=
  .of_wp fun pr wo Ar Rq s hh => by
    obtain ⟨h0, gg, dd, tt, oo⟩ := s
    obtain ⟨hok, hh⟩ := hh
    have sube := sub_enumerate
    have itr : ∀ {A' : Around} {E : Value → Shared → Prop} {Q : Value → Shared → Prop}, Q (.ref h0.objs.size) ⟨h0.push oi, gg, dd, tt, oo⟩ → wpAny (model pr wo) A' (pyIter v) Q E ⟨h0, gg, dd, tt, oo⟩ :=
      fun q => B.iter pr wo _ _ ⟨h0, gg, dd, tt, oo⟩ _ hok q
    wp_walk using itr
    refine wpAny_stack_any fun _ => wpAny_pure ?_
    split
    · rename_i cc _ _ _ _ _
      cases (cc == Value.type "enumerate")
      · wp_walk using itr
        exact ⟨_, rfl, hh⟩
      · wp_walk using itr
        exact ⟨_, rfl, hh⟩
    · wp_walk using itr
      exact ⟨_, rfl, hh⟩
theorem enumTup {prog : Program} {w : World} {A : Around} {E : Value → Shared → Prop} {s : Shared} {tp : Addr} {its : Array Value} {Q : Value → Shared → Prop} (ht : s.heap.IsTuple tp its)
    (k : ∀ h2, IsEnum h2 (s.heap.objs.size + 1) s.heap.objs.size 0 .none → h2.IsTupleIter s.heap.objs.size tp 0 → (∀ b o, s.heap.get? b = some o → h2.get? b = some o) → Q (.ref (s.heap.objs.size + 1)) { s with heap := h2 }) :
    wpAny (model prog w) A (call (.type "enumerate") [.ref tp]) Q E s := by
  refine callType_new F.called_enumerate (by decide) (F.typeCall_enumerate_1 _) (F.newCall_enumerate_1 _) (fun obj => F.args_object_init_2 obj _) F.entry_enumerate_new (enumNew (begins_tuple tp its)) ⟨ht, ?_⟩
  generalize hoi : ({ cls := .type "tuple_iterator", data := .fields #[.ref tp, .int 0 0] } : Obj) = oi
  have nf : oi.isFreed = false := by rw [← hoi]; rfl
  have sz : (s.heap.push oi).objs.size = s.heap.objs.size + 1 := Heap.size_push ..
  show _ ∧ _
  rw [sz]
  have en : IsEnum ((s.heap.push oi).push { cls := .type "enumerate", data := .fields #[.none, .bool false, .ref s.heap.objs.size, rawInt 0, .none, .none] }) (s.heap.objs.size + 1) s.heap.objs.size 0 .none := by
    have z := Heap.get?_push_size (s.heap.push oi) (o := { cls := .type "enumerate", data := .fields #[.none, .bool false, .ref s.heap.objs.size, rawInt 0, .none, .none] }) rfl
    rw [sz] at z
    exact z
  refine ⟨⟨_, en, rfl⟩, k _ en ?_ fun b o x => Heap.get?_push_of_some _ (Heap.get?_push_of_some _ x)⟩
  exact ⟨oi, Heap.get?_push_of_some _ (Heap.get?_push_size _ nf), by rw [← hoi], by rw [← hoi]; rfl⟩
/-- the tuple at a, each item in a new pair -/
def IteT (K : PySem.W.Frag) (a : Addr) : It :=
  ⟨fun i H => ∃ (xs : List V) (x : V), SqT K H a xs ∧ xs[i]? = some x, fun i H v H' => ∃ Tn x, v = .ref Tn ∧ H Tn = none ∧ H' = upd H Tn (.tup [.int (i : Nat), x]) ∧ ∀ xs, SqT K H a xs → xs[i]? = some x, fun i H => ∃ xs : List V, SqT K H a xs ∧ xs.length ≤ i⟩
theorem turn_enT {P : Program} {w : World} {K : PySem.W.Frag} {elts : List Expr} {kk : Nat} {tpos : Pos} (a e it : Addr) :
    Turn P w K (.Tuple elts kk tpos) (IteT K a) [e, it] e (fun i h => (∃ old, IsEnum h e it ((i : Nat) : Int) old) ∧ h.IsTupleIter it a i ∧ e ≠ it ∧ a ≠ it) where
  mem := by simp
  obj := fun i h st b hb => by
    obtain ⟨⟨old, he⟩, ⟨o, ho, hc, hd⟩, _⟩ := st
    rcases (show b = e ∨ b = it by simpa using hb) with z | z
    · subst z; exact ⟨_, he, fun v q => nomatch q⟩
    · subst z; exact ⟨o, ho, fun v q => by rw [hd] at q; cases q⟩
  keep := fun i h h' st k => let ⟨⟨old, he⟩, hi, hne⟩ := st; ⟨⟨old, k e (by simp) _ he⟩, hi.at fun o q => k it (by simp) o q, hne⟩
  item := by
    intro X hP hw hK hc i pins s σ H E I hf st hg
    subst hP hw hK
    obtain ⟨⟨old, he⟩, hit, hne, hna⟩ := st
    obtain ⟨xs, x, hq, hx⟩ := hg
    obtain ⟨its, rv, p, hz⟩ := I.tuple hq
    obtain ⟨u, hu, ru⟩ := rv.get hx
    have p : s.heap.IsTuple a its.toArray := p
    have el : e < s.heap.objs.size := Heap.lt_size he
    have il : it < s.heap.objs.size := by obtain ⟨_, q, _⟩ := hit; exact Heap.lt_size q
    have ilt : i < its.toArray.size := by
      have := (List.getElem?_eq_some_iff.mp hu).1
      simpa using this
    have nea : e ∉ [it, a] := by
      intro z
      rcases (show e = it ∨ e = a by simpa using z) with z | z
      · exact hne z
      · subst z
        obtain ⟨o, ho, hcl, _⟩ := p
        rw [he] at ho
        cases ho
        exact absurd hcl (by simp)
    refine wpAny_pyNext_enum_itemD (Draws.tuple (A := X.A.in1) (show X.A.in1.handled = none from I.ok.hd hc) it a hna its.toArray) he (show s.heap.IsTupleIter it a i ∧ s.heap.IsTuple a its.toArray from ⟨hit, p⟩) ilt hne nea fun y h2 tk hy ho st2 hT hsz hk => ?_
    have hyu : y = u := by
      have hy : its.toArray[i]? = some y := hy
      rw [List.getElem?_toArray, hu] at hy
      exact (Option.some.inj hy).symm
    subst hyu
    refine ⟨_, rfl, wpAny_letOwnedTupleGo_enum (s := { s with heap := h2, toks := tk + 1 }) ho fun h3 he3 sb => ?_⟩
    have hT3 : h3.get? s.heap.objs.size = some { cls := .type "tuple", data := .seq #[.int i tk, y] } := (sb.2 _ (Nat.ne_of_gt el)).trans hT
    have new : ObjOk X.prog X.w (upd H s.heap.objs.size (.tup [.int (i : Nat), x])) h3 s.heap.objs.size (.tup [.int (i : Nat), x]) :=
      ⟨by show 2 ≤ sizeLine; decide, [.int i tk, y], .cons ⟨_, rfl⟩ (.cons ru .nil), ⟨_, hT3, rfl, _, rfl⟩⟩
    have I1 : Inv X pins σ (upd H s.heap.objs.size (.tup [.int (i : Nat), x])) { s with heap := h3, toks := tk + 1 } :=
      I.turnedNew (ch := [e, it]) (fun b ob hb q => (sb.2 b (fun z => hb (by simp [z]))).trans (hk b ob (fun z => hb (by simp [z])) (fun z => hb (by simp [z])) q)) hf (Nat.le_refl _) new
    refine ⟨.ref s.heap.objs.size, _, I1, rfl, ⟨_, x, rfl, I.hok.fresh (Nat.le_refl _), rfl, fun ys hy => by rw [I.tuple_inj hy hq]; exact hx⟩, ⟨⟨y, ?_⟩, st2.1.at fun o q => (sb.2 it (Ne.symm hne)).trans q, hne, hna⟩, fun b hb => ?_⟩
    · rw [show ((i + 1 : Nat) : Int) = (i : Int) + 1 by omega]
      exact he3
    · have hb' : b < s.heap.objs.size := by
        rcases (show b = e ∨ b = it by simpa using hb) with z | z
        · rw [z]; exact el
        · rw [z]; exact il
      rw [upd_ne (Nat.ne_of_lt hb')]
      exact (hf b hb).1
  done := by
    intro X hP hw hK hc i pins s σ H E I hf st hg
    subst hP hw hK
    obtain ⟨⟨old, he⟩, hit, hne, hna⟩ := st
    obtain ⟨xs, hq, hx⟩ := hg
    obtain ⟨its, rv, p, hz⟩ := I.tuple hq
    obtain ⟨f0, f1, f2, f3, f4, f5⟩ := hf it (by simp)
    have hl := rv.length
    have hT : s.TypeIs (.ref e) "enumerate" := ⟨_, he, rfl⟩
    unfold pyNext
    refine wpAny_bind (wpAny_attempt (wpAny_callSpecial?_slot (name := Str.ofString "__next__") hT F.slot_enumerate_next
      (wpAny_call_entry F.slot_enumerate_next hT F.entry_enumerate_next ?_ (F.args_enumerate_next_1 _))))
    show wpAny _ _ (field (.ref e) 2 >>= _) _ _ _
    refine wpAny_bind (wpAny_field he rfl (x := .ref it) rfl ?_)
    refine wpAny_bind (wpAny_nextOf_tuple_end (I.ok.hd hc) hit (show s.heap.IsTuple a its.toArray from p) (by simp; omega) fun h2 y hx2 hy => ?_)
    obtain ⟨o, ho, hcl⟩ := hy
    refine wpAny_bind (wpAny_isInstance (T := "StopIteration") (b := true) ⟨o, ho, hcl⟩ isSubtype_stop ?_)
    exact wpAny_pure ⟨rfl, I.turned (t' := s.toks) (fun b o hb q => hx2 b o hb q) f0 f1 f3 f4 f5⟩
  self := fun A i s Q E st h => let ⟨⟨_, he⟩, _⟩ := st; wpAny_pyIter_enum he h
def iEnA (K : PySem.W.Frag) (ta : TA) : TI := fun σ H R => ta σ H fun vs H1 => ∃ a xs, vs = [.ref a] ∧ ((SqL K H1 a xs ∧ R (Ite K a) H1) ∨ (SqT K H1 a xs ∧ R (IteT K a) H1))
theorem pi_enA {X : Cx} {e : Expr} {ta : TA} {p pos tpos : Pos} {elts : List Expr} {kk : Nat} (hg : Gl X "enumerate") (hm : X.mg "enumerate" = none) (ha : PA X [e] ta) (hs : starEach [e] X.env = [(false, eval e X.env)]) :
    PI X (.Tuple elts kk tpos) (.Call (.Name "enumerate" p) [e] [] pos) (iEnA X.K ta) := by
  refine ⟨fun pins s σ H R I h => ?_⟩
  refine Call_ (ld_blt I hg hm boot_enumerate (PyProof.Rows.callWith_type1 (thn (ha.run pos pins s σ H _ I h) fun us s1 ⟨vs, H1, I1, r1, q1⟩ => ?_) hs rfl))
  obtain ⟨a, xs, ex, q1⟩ := q1
  subst ex
  have frs : ∀ b, b ∈ [s1.heap.objs.size + 1, s1.heap.objs.size] → FpOk X pins H1 b := fun b hb => by
    have hle : s1.heap.objs.size ≤ b := by
      rcases (show b = s1.heap.objs.size + 1 ∨ b = s1.heap.objs.size by simpa using hb) with z | z <;> omega
    exact I1.fpOk hle (I1.hok.fresh hle)
  cases r1 with
  | cons r rr =>
    cases rr
    cases r
    rcases q1 with ⟨hq, q⟩ | ⟨hq, q⟩
    · obtain ⟨its, rv, pl, hz⟩ := I1.list hq
      refine call_enumerate_list pl.isList fun h2 he hit hsz hk => wpAny_pyIter_enum he ?_
      exact ⟨s1.heap.objs.size + 1, _, _, _, H1, rfl, I1.kept (t' := s1.toks) hk, turn_enum a (s1.heap.objs.size + 1) s1.heap.objs.size, ⟨⟨.none, he⟩, hit, Nat.succ_ne_self _⟩, frs, q⟩
    · obtain ⟨its, rv, pl, hz⟩ := I1.tuple hq
      have pl : s1.heap.IsTuple a its.toArray := pl
      have la : a < s1.heap.objs.size := by obtain ⟨_, ho, _⟩ := pl; exact Heap.lt_size ho
      refine enumTup pl fun h2 he hit hk => wpAny_pyIter_enum he ?_
      exact ⟨s1.heap.objs.size + 1, _, _, _, H1, rfl, I1.kept (t' := s1.toks) hk, turn_enT a (s1.heap.objs.size + 1) s1.heap.objs.size, ⟨⟨.none, he⟩, hit, Nat.succ_ne_self _, Nat.ne_of_lt la⟩, frs, q⟩
end Ev
namespace Ev
open L2 PySem PySem.Spec PyProof.Rows

/-! ## sources -/
def isTup : D → Bool
  | .tup _ => true
  | _ => false
def srSq (d : D) (S : Sto) : R Src := match d with
  | .str z => .ok (.txt z) S
  | d => match rdOf S d with
    | some _ => .ok (.seq d) S
    | none => .bad
def srEn (as : List D) (S : Sto) : R Src := match as with
  | [d] => match rdOf S d with
    | some _ => .ok (.enm d) S
    | none => .bad
  | _ => .bad
def srZp (as : List D) (S : Sto) : R Src := match as with
  | [d, e] => match rdOf S d, rdOf S e with
    | some _, some _ => if isTup d = isTup e then .ok (.zip d e) S else .bad
    | _, _ => .bad
  | _ => .bad
def srRg (as : List D) (S : Sto) : R Src := match as with
  | [.int j] => if -(2 ^ 62) ≤ j ∧ j < 2 ^ 62 then .ok (.rng 0 j.toNat) S else .bad
  | [.int i, .int j] => if (-(2 ^ 62) ≤ i ∧ i < 2 ^ 62) ∧ -(2 ^ 62) ≤ j ∧ j < 2 ^ 62 then .ok (.rng i (j - i).toNat) S else .bad
  | _ => .bad
def src1 (g : D → Sto → R Src) (f : Ex) : ExS := fun ρ S => (f ρ S).bind g
def srcL (g : List D → Sto → R Src) (f : ExL) : ExS := fun ρ S => (f ρ S).bind g

section
variable {X : Cx} {G : Gc} {E : XK} {a b c e : Expr} {fa fb fc : Ex} {pos p : Pos} {H H1 H' : Hp} {own own1 own' res res' : List Addr} {S S' : Sto} {Dn : Ends}
theorem pi_imp {tg e : Expr} {t t' : TI} (h : PI X tg e t) (i : ∀ σ H Q, t' σ H Q → t σ H Q) : PI X tg e t' := ⟨fun pins s σ H Q I hw => h.run pins s σ H Q I (i σ H Q hw)⟩
theorem Rep.later (g : Grow own H own' H') (rs : ∀ a, a ∈ res' → a ∈ res ∨ H a = none) {d : D} {v : V} (r : Rep G H own res d v) : Rep G H' own' res' d v :=
  Rep.mono (fun a o e n _ t => g.stay e n t) (fun a o e n _ t => g.out e n t) rs (fun i a => g.at) d v r
theorem rd_L (K : PySem.W.Frag) (w : Wd G own res S H) {d : D} {v : V} (r : Rep G H own res d v) (ht : isTup d = false) {ds : List D} (h : rdOf S d = some ds) : ∃ l vs, v = .ref l ∧ SqL K H l vs ∧ Reps G H own res ds vs := by
  cases d with
  | tup xs => cases ht
  | _ => exact r.liOf K w (by exact h)
theorem rd_T (K : PySem.W.Frag) {ds : List D} {v : V} (r : Rep G H own res (.tup ds) v) : ∃ l vs, v = .ref l ∧ SqT K H l vs ∧ Reps G H own res ds vs := by
  obtain ⟨l, vs, e, h1, h2⟩ := r.tupOf
  exact ⟨l, vs, e, SqT.of h1, h2⟩
theorem isTup_at {d : D} (h : isTup d = true) : ∃ xs, d = .tup xs := by
  cases d <;> first | exact ⟨_, rfl⟩ | cases h
/-- the items of a list as they come -/
theorem sr_list (K : PySem.W.Frag) {d : D} {l : Addr} (r : Rep G H own res d (.ref l)) (ht : isTup d = false) : SrcR G H own res (.seq d) (Itl K l) := fun own' H' res' S' g rs w i => by
  have r' := r.later g rs
  refine ⟨fun h => ?_, fun x h => ?_⟩
  · obtain ⟨xs, h1, h2⟩ := Option.map_eq_some_iff.mp (show (rdOf S' d).map (fun xs => xs[i]?) = some none from h)
    obtain ⟨l', vs, e, hl, rv⟩ := rd_L K w r' ht h1
    cases e
    exact ⟨vs, hl, by rw [← rv.length]; exact List.getElem?_eq_none_iff.mp h2⟩
  · obtain ⟨xs, h1, h2⟩ := Option.map_eq_some_iff.mp (show (rdOf S' d).map (fun xs => xs[i]?) = some (some x) from h)
    obtain ⟨l', vs, e, hl, rv⟩ := rd_L K w r' ht h1
    cases e
    obtain ⟨v, hv, rx⟩ := rv.get h2
    refine ⟨⟨vs, v, hl, hv⟩, fun u H'' y => ?_⟩
    obtain ⟨rfl, y⟩ := y
    have := y vs hl
    rw [hv] at this
    cases this
    exact ⟨Grow.refl _ _, w, rx, fun _ _ => rfl⟩
theorem sr_tup (K : PySem.W.Frag) {ds : List D} {l : Addr} (r : Rep G H own res (.tup ds) (.ref l)) : SrcR G H own res (.seq (.tup ds)) (Itt K l) := fun own' H' res' S' g rs w i => by
  have r' := r.later g rs
  obtain ⟨l', vs, e, hl, rv⟩ := rd_T K r'
  cases e
  refine ⟨fun h => ?_, fun x h => ?_⟩
  · have h2 : ds[i]? = none := Option.some.inj (show some (ds[i]?) = some none from h)
    exact ⟨vs, hl, by rw [← rv.length]; exact List.getElem?_eq_none_iff.mp h2⟩
  · have h2 : ds[i]? = some x := Option.some.inj (show some (ds[i]?) = some (some x) from h)
    obtain ⟨v, hv, rx⟩ := rv.get h2
    refine ⟨⟨vs, v, hl, hv⟩, fun u H'' y => ?_⟩
    obtain ⟨rfl, y⟩ := y
    have := y vs hl
    rw [hv] at this
    cases this
    exact ⟨Grow.refl _ _, w, rx, fun _ _ => rfl⟩
theorem sr_txt (z : Str) : SrcR G H own res (.txt z) (Its z) := fun own' H' res' S' g rs w i => by
  refine ⟨fun h => ?_, fun x h => ?_⟩
  · have h2 : (z.cps[i]?).map (fun c => D.str ⟨#[c]⟩) = none := Option.some.inj (show some ((z.cps[i]?).map fun c => D.str ⟨#[c]⟩) = some none from h)
    have h3 : z.cps[i]? = none := by
      cases hz : z.cps[i]? with
      | none => rfl
      | some c => rw [hz] at h2; cases h2
    exact Array.getElem?_eq_none_iff.mp h3
  · have h2 : (z.cps[i]?).map (fun c => D.str ⟨#[c]⟩) = some x := Option.some.inj (show some ((z.cps[i]?).map fun c => D.str ⟨#[c]⟩) = some (some x) from h)
    obtain ⟨c, h3, rfl⟩ := Option.map_eq_some_iff.mp h2
    obtain ⟨hi, _⟩ := Array.getElem?_eq_some_iff.mp h3
    refine ⟨hi, fun u H'' y => ?_⟩
    obtain ⟨rfl, c', hc, rfl⟩ := y
    rw [h3] at hc
    cases hc
    exact ⟨Grow.refl _ _, w, rfl, fun _ _ => rfl⟩
theorem sr_rng (lo : Int) (n : Nat) : SrcR G H own res (.rng lo n) (Itr lo n) := fun own' H' res' S' g rs w i => by
  refine ⟨fun h => ?_, fun x h => ?_⟩
  · have h2 : (if i < n then some (D.int (lo + i)) else none) = none := Option.some.inj (show some (if i < n then some (D.int (lo + i)) else none) = some none from h)
    by_cases hi : i < n
    · rw [if_pos hi] at h2; cases h2
    · exact Nat.le_of_not_lt hi
  · have h2 : (if i < n then some (D.int (lo + i)) else none) = some x := Option.some.inj (show some (if i < n then some (D.int (lo + i)) else none) = some (some x) from h)
    by_cases hi : i < n
    · rw [if_pos hi] at h2
      cases h2
      refine ⟨hi, fun u H'' y => ?_⟩
      obtain ⟨rfl, rfl⟩ := y
      exact ⟨Grow.refl _ _, w, rfl, fun _ _ => rfl⟩
    · rw [if_neg hi] at h2; cases h2
/-- a new pair -/
theorem new_two (w : Wd G own res S H) {x y : D} {v u : V} (r1 : Rep G H own res x v) (r2 : Rep G H own res y u) {t : Addr} (ht : H t = none) :
    Grow own H own (upd H t (.tup [v, u])) ∧ Wd G own res S (upd H t (.tup [v, u])) ∧ Rep G (upd H t (.tup [v, u])) own res (.tup [x, y]) (.ref t) ∧ ∀ p, H p ≠ none → upd H t (.tup [v, u]) p = H p := by
  have n := w.fresh ht
  exact ⟨Grow.laid ht n.1, w.laid ht, ⟨t, _, rfl, upd_same, n.1, n.2, .cons (r1.laid ht n.1) (.cons (r2.laid ht n.1) .nil)⟩, fun p hp => upd_ne fun z => hp (by rw [z]; exact ht)⟩
theorem sr_enL (K : PySem.W.Frag) {d : D} {l : Addr} (r : Rep G H own res d (.ref l)) (ht : isTup d = false) : SrcR G H own res (.enm d) (Ite K l) := fun own' H' res' S' g rs w i => by
  have r' := r.later g rs
  refine ⟨fun h => ?_, fun x h => ?_⟩
  · obtain ⟨xs, h1, h2⟩ := Option.map_eq_some_iff.mp (show (rdOf S' d).map (fun xs => (xs[i]?).map fun x => D.tup [.int (i : Nat), x]) = some none from h)
    obtain ⟨l', vs, e, hl, rv⟩ := rd_L K w r' ht h1
    cases e
    exact ⟨vs, hl, by rw [← rv.length]; exact List.getElem?_eq_none_iff.mp (Option.map_eq_none_iff.mp h2)⟩
  · obtain ⟨xs, h1, h2⟩ := Option.map_eq_some_iff.mp (show (rdOf S' d).map (fun xs => (xs[i]?).map fun x => D.tup [.int (i : Nat), x]) = some (some x) from h)
    obtain ⟨x', h3, rfl⟩ := Option.map_eq_some_iff.mp h2
    obtain ⟨l', vs, e, hl, rv⟩ := rd_L K w r' ht h1
    cases e
    obtain ⟨v, hv, rx⟩ := rv.get h3
    refine ⟨⟨vs, v, hl, hv⟩, fun u H'' y => ?_⟩
    obtain ⟨t, v', rfl, hT, rfl, y⟩ := y
    have := y vs hl
    rw [hv] at this
    cases this
    exact new_two w (x := .int (i : Nat)) rfl rx hT
theorem sr_enT (K : PySem.W.Frag) {ds : List D} {l : Addr} (r : Rep G H own res (.tup ds) (.ref l)) : SrcR G H own res (.enm (.tup ds)) (IteT K l) := fun own' H' res' S' g rs w i => by
  have r' := r.later g rs
  obtain ⟨l', vs, e, hl, rv⟩ := rd_T K r'
  cases e
  refine ⟨fun h => ?_, fun x h => ?_⟩
  · have h2 : (ds[i]?).map (fun x => D.tup [.int (i : Nat), x]) = none := Option.some.inj (show some ((ds[i]?).map fun x => D.tup [.int (i : Nat), x]) = some none from h)
    exact ⟨vs, hl, by rw [← rv.length]; exact List.getElem?_eq_none_iff.mp (Option.map_eq_none_iff.mp h2)⟩
  · have h2 : (ds[i]?).map (fun x => D.tup [.int (i : Nat), x]) = some x := Option.some.inj (show some ((ds[i]?).map fun x => D.tup [.int (i : Nat), x]) = some (some x) from h)
    obtain ⟨x', h3, rfl⟩ := Option.map_eq_some_iff.mp h2
    obtain ⟨v, hv, rx⟩ := rv.get h3
    refine ⟨⟨vs, v, hl, hv⟩, fun u H'' y => ?_⟩
    obtain ⟨t, v', rfl, hT, rfl, y⟩ := y
    have := y vs hl
    rw [hv] at this
    cases this
    exact new_two w (x := .int (i : Nat)) rfl rx hT
theorem zip_at {xs ys : List D} {i : Nat} {o : Option D} (h : (match xs[i]?, ys[i]? with | some x, some y => some (some (D.tup [x, y])) | _, _ => some none) = some o) :
    (o = none ∧ (xs.length ≤ i ∨ ys.length ≤ i)) ∨ ∃ x y, o = some (.tup [x, y]) ∧ xs[i]? = some x ∧ ys[i]? = some y := by
  cases h1 : xs[i]? with
  | none => rw [h1] at h; cases h; exact .inl ⟨rfl, .inl (List.getElem?_eq_none_iff.mp h1)⟩
  | some x =>
    cases h2 : ys[i]? with
    | none => rw [h1, h2] at h; cases h; exact .inl ⟨rfl, .inr (List.getElem?_eq_none_iff.mp h2)⟩
    | some y => rw [h1, h2] at h; cases h; exact .inr ⟨x, y, rfl, rfl, rfl⟩
theorem zip_src {d e : D} {i : Nat} {o : Option D} (h : (Src.zip d e).at S i = some o) : ∃ xs ys, rdOf S d = some xs ∧ rdOf S e = some ys ∧ ((o = none ∧ (xs.length ≤ i ∨ ys.length ≤ i)) ∨ ∃ x y, o = some (.tup [x, y]) ∧ xs[i]? = some x ∧ ys[i]? = some y) := by
  have h : (match rdOf S d, rdOf S e with
    | some xs, some ys => match xs[i]?, ys[i]? with
      | some x, some y => some (some (D.tup [x, y]))
      | _, _ => some none
    | _, _ => none) = some o := h
  cases h1 : rdOf S d with
  | none => rw [h1] at h; cases h
  | some xs =>
    cases h2 : rdOf S e with
    | none => rw [h1, h2] at h; cases h
    | some ys => rw [h1, h2] at h; exact ⟨xs, ys, rfl, rfl, zip_at h⟩
theorem sr_zpL (K : PySem.W.Frag) {d e : D} {l l2 : Addr} (r : Rep G H own res d (.ref l)) (r2 : Rep G H own res e (.ref l2)) (ht : isTup d = false) (ht2 : isTup e = false) : SrcR G H own res (.zip d e) (Itz K l l2) := fun own' H' res' S' g rs w i => by
  have r' := r.later g rs
  have r2' := r2.later g rs
  refine ⟨fun h => ?_, fun x h => ?_⟩
  · obtain ⟨xs, ys, h1, h2, z⟩ := zip_src h
    obtain ⟨_, vs, e, hl, rv⟩ := rd_L K w r' ht h1
    cases e
    obtain ⟨_, us, e, hl2, ru⟩ := rd_L K w r2' ht2 h2
    cases e
    rcases z with ⟨_, z⟩ | ⟨x, y, z, _⟩
    · exact ⟨vs, us, hl, hl2, by rw [← rv.length, ← ru.length]; exact z⟩
    · cases z
  · obtain ⟨xs, ys, h1, h2, z⟩ := zip_src h
    obtain ⟨_, vs, e, hl, rv⟩ := rd_L K w r' ht h1
    cases e
    obtain ⟨_, us, e, hl2, ru⟩ := rd_L K w r2' ht2 h2
    cases e
    rcases z with ⟨z, _⟩ | ⟨x', y', z, hx, hy⟩
    · cases z
    cases z
    obtain ⟨v, hv, rx⟩ := rv.get hx
    obtain ⟨u, hu, ry⟩ := ru.get hy
    refine ⟨⟨vs, us, v, u, hl, hl2, hv, hu⟩, fun q H'' y => ?_⟩
    obtain ⟨t, v', u', rfl, hT, rfl, y1, y2⟩ := y
    have z1 := y1 vs hl
    have z2 := y2 us hl2
    rw [hv] at z1
    rw [hu] at z2
    cases z1; cases z2
    exact new_two w rx ry hT
theorem sr_zpT (K : PySem.W.Frag) {d e : D} {l l2 : Addr} (r : Rep G H own res d (.ref l)) (r2 : Rep G H own res e (.ref l2)) (ht : isTup d = true) (ht2 : isTup e = true) : SrcR G H own res (.zip d e) (RZ.ItzT K l l2) := fun own' H' res' S' g rs w i => by
  obtain ⟨ds, rfl⟩ := isTup_at ht
  obtain ⟨es, rfl⟩ := isTup_at ht2
  obtain ⟨_, vs, e, hl, rv⟩ := rd_T K (r.later g rs)
  cases e
  obtain ⟨_, us, e, hl2, ru⟩ := rd_T K (r2.later g rs)
  cases e
  refine ⟨fun h => ?_, fun x h => ?_⟩
  · obtain ⟨xs, ys, h1, h2, z⟩ := zip_src h
    cases h1; cases h2
    rcases z with ⟨_, z⟩ | ⟨x, y, z, _⟩
    · exact ⟨vs, us, hl, hl2, by rw [← rv.length, ← ru.length]; exact z⟩
    · cases z
  · obtain ⟨xs, ys, h1, h2, z⟩ := zip_src h
    cases h1; cases h2
    rcases z with ⟨z, _⟩ | ⟨x', y', z, hx, hy⟩
    · cases z
    cases z
    obtain ⟨v, hv, rx⟩ := rv.get hx
    obtain ⟨u, hu, ry⟩ := ru.get hy
    refine ⟨⟨vs, us, v, u, hl, hl2, hv, hu⟩, fun q H'' y => ?_⟩
    obtain ⟨t, v', u', rfl, hT, rfl, y1, y2⟩ := y
    have z1 := y1 vs hl
    have z2 := y2 us hl2
    rw [hv] at z1
    rw [hu] at z2
    cases z1; cases z2
    exact new_two w rx ry hT

/-! ### the rules -/
/-- one of three kinds -/
def iSq (K : PySem.W.Frag) (tl : TE) : TI := fun σ H R => tl σ H fun x H1 => (∃ a, x = .ref a ∧ (∃ xs, SqL K H1 a xs) ∧ R (Itl K a) H1) ∨ (∃ a, x = .ref a ∧ (∃ xs, SqT K H1 a xs) ∧ R (Itt K a) H1) ∨ ∃ z, x = .str z ∧ R (Its z) H1
theorem pi_sq {tg l : Expr} {tl : TE} (hl : PE X l tl) : PI X tg l (iSq X.K tl) := by
  refine ⟨fun pins s σ H R I h => ?_⟩
  refine thn (hl.run pins s σ H _ I h) fun v s1 ⟨x, H1, I1, r1, q1⟩ => ?_
  have hn : ∀ b, b ∈ [s1.heap.objs.size] → FpOk X pins H1 b := fun b hb => by
    obtain rfl : b = s1.heap.objs.size := by simpa using hb
    exact I1.fpOk (Nat.le_refl _) (I1.hok.fresh (Nat.le_refl _))
  rcases q1 with ⟨a, rfl, ⟨xs, hq⟩, q⟩ | ⟨a, rfl, ⟨xs, hq⟩, q⟩ | ⟨z, rfl, q⟩
  · obtain rfl : v = Value.ref a := r1
    obtain ⟨its, rv, pl, _⟩ := I1.list hq
    exact wpAny_pyIter_list pl.isList ⟨_, _, _, _, H1, rfl, I1.kept (t' := s1.toks) fun b o e => Heap.get?_push_of_some _ e, turn_list a _, ⟨_, Heap.get?_push_size _ rfl, rfl, rfl⟩, hn, q⟩
  · obtain rfl : v = Value.ref a := r1
    obtain ⟨its, rv, pl, _⟩ := I1.tuple hq
    exact wpAny_pyIter_tuple (show s1.heap.IsTuple a its.toArray from pl) ⟨_, _, _, _, H1, rfl, I1.kept (t' := s1.toks) fun b o e => Heap.get?_push_of_some _ e, turn_tuple a _, ⟨_, Heap.get?_push_size _ rfl, rfl, rfl⟩, hn, q⟩
  · obtain ⟨t, rfl⟩ := r1
    cases ha : z.cps.all (· < 128)
    · exact wpAny_pyIter_wide ha (pi_one (tk := s1.toks) I1 _ (turn_str _ z t "str_iterator" (.inr rfl)) ⟨_, Heap.get?_push_size _ rfl, rfl, rfl⟩ q)
    · exact wpAny_pyIter_ascii ha (pi_one (tk := s1.toks) I1 _ (turn_str _ z t "str_ascii_iterator" (.inl rfl)) ⟨_, Heap.get?_push_size _ rfl, rfl, rfl⟩ q)
theorem i_sq {tg : Expr} (ha : PE X a (tG G (relV G) E fa)) : PI X tg a (tG G (relS G) E (src1 srSq fa)) := pi_imp (pi_sq ha) fun σ H Q ⟨own, res, S, ρ, w, en, q⟩ => by
  refine ⟨own, res, S, ρ, w, en, (Good.bind (r1 := relV G) q).imp fun x H1 ⟨own1, S1, d, g1, w1, r1, q1⟩ => ?_⟩
  unfold srSq at q1
  split at q1
  · rename_i z
    cases r1
    exact .inr (.inr ⟨z, rfl, q1.here w1 (sr_txt z)⟩)
  · split at q1
    · rename_i xs hx
      cases ht : isTup d with
      | true =>
        obtain ⟨ds, rfl⟩ := isTup_at ht
        obtain ⟨l, vs, rfl, hl, rv⟩ := rd_T X.K r1
        exact .inr (.inl ⟨l, rfl, ⟨vs, hl⟩, q1.here w1 (sr_tup X.K r1)⟩)
      | false =>
        obtain ⟨l, vs, rfl, hl, rv⟩ := rd_L X.K w1 r1 ht hx
        exact .inl ⟨l, rfl, ⟨vs, hl⟩, q1.here w1 (sr_list X.K r1 ht)⟩
    · exact q1.elim
theorem i_en {elts : List Expr} {kk : Nat} {tpos : Pos} {fl : ExL} (hg : Gl X "enumerate") (hm : X.mg "enumerate" = none) (ha : PA X [a] (tG G (relL G) E fl)) (hs : starEach [a] X.env = [(false, eval a X.env)]) :
    PI X (.Tuple elts kk tpos) (.Call (.Name "enumerate" p) [a] [] pos) (tG G (relS G) E (srcL srEn fl)) := pi_imp (pi_enA hg hm ha hs) fun σ H Q ⟨own, res, S, ρ, w, en, q⟩ => by
  refine ⟨own, res, S, ρ, w, en, (Good.bind (r1 := relL G) q).imp fun x H1 ⟨own1, S1, d, g1, w1, r1, q1⟩ => ?_⟩
  unfold srEn at q1
  split at q1
  · rename_i d
    obtain ⟨v, rfl, r9⟩ := r1.one'
    clear r1
    split at q1
    · rename_i xs hx
      cases ht : isTup d with
      | true =>
        obtain ⟨ds, rfl⟩ := isTup_at ht
        obtain ⟨l, vs, rfl, hl, rv⟩ := rd_T X.K r9
        exact ⟨l, vs, rfl, .inr ⟨hl, q1.here w1 (sr_enT X.K r9)⟩⟩
      | false =>
        obtain ⟨l, vs, rfl, hl, rv⟩ := rd_L X.K w1 r9 ht hx
        exact ⟨l, vs, rfl, .inl ⟨hl, q1.here w1 (sr_enL X.K r9 ht)⟩⟩
    · exact q1.elim
  · exact q1.elim
theorem i_zp {elts : List Expr} {kk : Nat} {tpos : Pos} {fl : ExL} (hg : Gl X "zip") (hm : X.mg "zip" = none) (ha : PA X [a, b] (tG G (relL G) E fl))
    (hs : starEach [a, b] X.env = (false, eval a X.env) :: starEach [b] X.env) (hpl : (backTo pos (starEach [b] X.env)).any (·.1) = false) :
    PI X (.Tuple elts kk tpos) (.Call (.Name "zip" p) [a, b] [] pos) (tG G (relS G) E (srcL srZp fl)) := pi_imp (RZ.pi_zipA hg hm ha hs hpl) fun σ H Q ⟨own, res, S, ρ, w, en, q⟩ => by
  refine ⟨own, res, S, ρ, w, en, (Good.bind (r1 := relL G) q).imp fun x H1 ⟨own1, S1, d, g1, w1, r1, q1⟩ => ?_⟩
  unfold srZp at q1
  split at q1
  · rename_i d e
    obtain ⟨v, u, rfl, r8, r2⟩ := r1.two'
    split at q1
    · rename_i xs ys hx hy
      split at q1
      · rename_i ht
        cases hd : isTup d with
        | true =>
          have he : isTup e = true := by rw [← ht, hd]
          obtain ⟨ds, rfl⟩ := isTup_at hd
          obtain ⟨es, rfl⟩ := isTup_at he
          obtain ⟨l, vs, rfl, hl, rv⟩ := rd_T X.K r8
          obtain ⟨l2, us, rfl, hl2, ru⟩ := rd_T X.K r2
          exact ⟨l, l2, vs, us, rfl, .inr ⟨hl, hl2, q1.here w1 (sr_zpT X.K r8 r2 rfl rfl)⟩⟩
        | false =>
          have he : isTup e = false := by rw [← ht, hd]
          obtain ⟨l, vs, rfl, hl, rv⟩ := rd_L X.K w1 r8 hd hx
          obtain ⟨l2, us, rfl, hl2, ru⟩ := rd_L X.K w1 r2 he hy
          exact ⟨l, l2, vs, us, rfl, .inl ⟨hl, hl2, q1.here w1 (sr_zpL X.K r8 r2 hd he)⟩⟩
      · exact q1.elim
    · exact q1.elim
  · exact q1.elim
theorem i_rg1 {tg : Expr} {fl : ExL} (hg : Gl X "range") (hm : X.mg "range" = none) (ha : PA X [a] (tG G (relL G) E fl)) (hs : starEach [a] X.env = [(false, eval a X.env)]) :
    PI X tg (.Call (.Name "range" p) [a] [] pos) (tG G (relS G) E (srcL (fun as S => if as.length = 1 then srRg as S else .bad) fl)) := pi_imp (pi_range1 hg hm ha hs) fun σ H Q ⟨own, res, S, ρ, w, en, q⟩ => by
  refine ⟨own, res, S, ρ, w, en, (Good.bind (r1 := relL G) q).imp fun x H1 ⟨own1, S1, d, g1, w1, r1, q1⟩ => ?_⟩
  split at q1
  · unfold srRg at q1
    split at q1
    · rename_i j
      obtain ⟨v, rfl, r9⟩ := r1.one'
      cases r9
      split at q1
      · rename_i hj
        exact ⟨_, rfl, hj.1, hj.2, q1.here w1 (sr_rng _ _)⟩
      · exact q1.elim
    · rename_i hl
      simp at hl
    · exact q1.elim
  · exact q1.elim
theorem i_rg2 {tg : Expr} {fl : ExL} (hg : Gl X "range") (hm : X.mg "range" = none) (ha : PA X [a, b] (tG G (relL G) E fl)) (hs : starEach [a, b] X.env = [(false, eval a X.env), (false, eval b X.env)]) (hs2 : starEach [b] X.env = [(false, eval b X.env)]) :
    PI X tg (.Call (.Name "range" p) [a, b] [] pos) (tG G (relS G) E (srcL (fun as S => if as.length = 2 then srRg as S else .bad) fl)) := pi_imp (pi_range2 hg hm ha hs hs2) fun σ H Q ⟨own, res, S, ρ, w, en, q⟩ => by
  refine ⟨own, res, S, ρ, w, en, (Good.bind (r1 := relL G) q).imp fun x H1 ⟨own1, S1, d, g1, w1, r1, q1⟩ => ?_⟩
  split at q1
  · unfold srRg at q1
    split at q1
    · rename_i hl
      simp at hl
    · rename_i i j hl
      obtain ⟨v, u, rfl, r9, r2⟩ := r1.two'
      cases r9
      cases r2
      split at q1
      · rename_i hj
        exact ⟨i, j, rfl, ⟨hj.1.1, hj.1.2, hj.2.1, hj.2.2⟩, q1.here w1 (sr_rng _ _)⟩
      · exact q1.elim
    · exact q1.elim
  · exact q1.elim
end
end Ev
namespace Ev
open L2 PySem PySem.Spec PyProof.Rows

/-! ## methods of lists -/
def mthL (g : D → List D → Sto → R D) (fo : Ex) (fl : ExL) : Ex := fun ρ S => (fo ρ S).bind fun o S1 => match liOf S1 o with
  | some _ => (fl ρ S1).bind fun as S2 => g o as S2
  | none => .bad
def dApp (o : D) (as : List D) (S : Sto) : R D := match o, as with
  | .m k, [y] => match S[k]? with
    | some (.lst xs) => if xs.length < 16777216 then .ok .non (S.set k (.lst (xs ++ [y]))) else .bad
    | _ => .bad
  | _, _ => .bad
def dExt (o : D) (as : List D) (S : Sto) : R D := match o, as with
  | .m k, [y] => match S[k]?, lstOf S y with
    | some (.lst xs), some ys => if xs.length + ys.length ≤ 16777216 then .ok .non (S.set k (.lst (xs ++ ys))) else .bad
    | _, _ => .bad
  | _, _ => .bad
def dPop (o : D) (as : List D) (S : Sto) : R D := match o, as with
  | .m k, [.int i] => match S[k]? with
    | some (.lst xs) => if -(2 ^ 63) ≤ i ∧ i < 2 ^ 63 then match seqIndex? i xs.length with
        | some j => match xs[j]? with
          | some y => .ok y (S.set k (.lst (xs.eraseIdx j)))
          | none => .bad
        | none => .bad
      else .bad
    | _ => .bad
  | _, _ => .bad
/-- the first place of an equal one -/
def firstD (d : PyData) : List PyData → Nat → Option Nat
  | [], _ => none
  | z :: zs, i => if PyData.eqv z d = true then some i else firstD d zs (i + 1)
def dIdx (o : D) (as : List D) (S : Sto) : R D := match as with
  | [y] => match py S o, py S y with
    | some (.list zs), some d => if SeqAt.shaped (.list zs) = true ∧ SeqAt.shaped d = true then match firstD d zs 0 with
        | some j => .ok (.int (j : Nat)) S
        | none => .bad
      else .bad
    | _, _ => .bad
  | _ => .bad
section
variable {X : Cx} {G : Gc} {E : XK} {a b c e : Expr} {fa fb fc : Ex} {pos p : Pos} {H H1 H' : Hp} {own own1 own' res res' : List Addr} {S S' : Sto} {Dn : Ends}
theorem put_lst {k : Nat} {q : Addr} {ds : List D} {vs : List V} (w : Wd G own res S H) (hk : own[k]? = some q) (r : Reps G H own res ds vs) : Grow own H own (upd H q (.lst vs)) ∧ Wd G own res (S.set k (.lst ds)) (upd H q (.lst vs)) := by
  have hq : q ∈ own := List.mem_of_getElem? hk
  have g : Grow own H own (upd H q (.lst vs)) := Grow.write hq
  exact ⟨g, w.write hk (fun ps z => by cases z) ⟨vs, upd_same, r.grow g⟩⟩
theorem cell_at {k : Nat} {v : V} {xs : List D} (w : Wd G own res S H) (r : Rep G H own res (.m k) v) (h : S[k]? = some (.lst xs)) : ∃ l vs, v = .ref l ∧ own[k]? = some l ∧ H l = some (.lst vs) ∧ Reps G H own res xs vs := by
  obtain ⟨l, e, h1⟩ := r
  obtain ⟨vs, h2, h3⟩ := w.cell k _ l h h1
  exact ⟨l, vs, e, h1, h2, h3⟩
theorem lst_at {d : D} {v : V} {xs : List D} (w : Wd G own res S H) (r : Rep G H own res d v) (h : lstOf S d = some xs) : ∃ l vs, v = .ref l ∧ H l = some (.lst vs) ∧ Reps G H own res xs vs := r.lstOf w h
theorem ok_app {o : D} {x : V} {ds : List D} {xs : List V} {Q : VK} (w : Wd G own res S H) (ro : Rep G H own res o x) (r : Reps G H own res ds xs) (q : Good G (relV G) own res H Q E (dApp o ds S)) : rAppend x xs H Q := by
  unfold dApp at q
  split at q
  · rename_i k y
    split at q
    · rename_i ys hk
      split at q
      · rename_i hz
        obtain ⟨v, rfl, rv⟩ := r.one'
        obtain ⟨l, vs, rfl, h1, h2, h3⟩ := cell_at w ro hk
        have r2 := h3.append (Reps.one rv)
        obtain ⟨g, w2⟩ := put_lst w h1 r2
        exact ⟨l, vs, v, rfl, rfl, h2, by rw [← h3.length, sizeLine_eq]; exact hz, q own _ .non g w2 rfl⟩
      · exact q.elim
    · exact q.elim
  · exact q.elim
theorem ok_ext {o : D} {x : V} {ds : List D} {xs : List V} {Q : VK} (w : Wd G own res S H) (ro : Rep G H own res o x) (r : Reps G H own res ds xs) (q : Good G (relV G) own res H Q E (dExt o ds S)) : rExtend x xs H Q := by
  unfold dExt at q
  split at q
  · rename_i k y
    split at q
    · rename_i ys zs hk hy
      split at q
      · rename_i hz
        obtain ⟨v, rfl, rv⟩ := r.one'
        obtain ⟨l, vs, rfl, h1, h2, h3⟩ := cell_at w ro hk
        obtain ⟨b, us, rfl, h4, h5⟩ := lst_at w rv hy
        have r2 := h3.append h5
        obtain ⟨g, w2⟩ := put_lst w h1 r2
        exact ⟨l, b, vs, us, rfl, rfl, h2, h4, by rw [← h3.length, ← h5.length, sizeLine_eq]; exact hz, q own _ .non g w2 rfl⟩
      · exact q.elim
    · exact q.elim
  · exact q.elim
theorem ok_pop {o : D} {x : V} {ds : List D} {xs : List V} {Q : VK} (w : Wd G own res S H) (ro : Rep G H own res o x) (r : Reps G H own res ds xs) (q : Good G (relV G) own res H Q E (dPop o ds S)) : rPopAt x xs H Q := by
  unfold dPop at q
  split at q
  · rename_i k i
    split at q
    · rename_i ys hk
      split at q
      · rename_i hi
        split at q
        · rename_i j hj
          split at q
          · rename_i y hy
            obtain ⟨v, rfl, rv⟩ := r.one'
            cases rv
            obtain ⟨l, vs, rfl, h1, h2, h3⟩ := cell_at w ro hk
            obtain ⟨u, hu, ru⟩ := h3.get hy
            obtain ⟨g, w2⟩ := put_lst w h1 (h3.eraseIdx j)
            exact ⟨l, vs, i, j, u, rfl, rfl, h2, hi.1, hi.2, by rw [← h3.length]; exact hj, hu, q own _ u g w2 (ru.grow g)⟩
          · exact q.elim
        · exact q.elim
      · exact q.elim
    · exact q.elim
  · exact q.elim
theorem firstD_at {d : PyData} : ∀ {zs : List PyData} {i j : Nat}, firstD d zs i = some j → ∃ m z, j = i + m ∧ zs[m]? = some z ∧ PyData.eqv z d = true ∧ ∀ (n : Nat) (z' : PyData), n < m → zs[n]? = some z' → PyData.eqv z' d = false
  | [], _, _, h => by cases h
  | z :: zs, i, j, h => by
    unfold firstD at h
    split at h
    · rename_i hz
      cases h
      exact ⟨0, z, rfl, rfl, hz, fun n z' hn => absurd hn (Nat.not_lt_zero n)⟩
    · rename_i hz
      obtain ⟨m, z2, e1, e2, e3, e4⟩ := firstD_at h
      refine ⟨m + 1, z2, by omega, by simpa using e2, e3, fun n z' hn e => ?_⟩
      cases n with
      | zero =>
        have : z = z' := by simpa using e
        subst this
        simpa using hz
      | succ n => exact e4 n z' (by omega) (by simpa using e)
theorem ok_idx {o : D} {x : V} {ds : List D} {xs : List V} {Q : VK} (hl : ∃ l, x = .ref l) (w : Wd G own res S H) (ro : Rep G H own res o x) (r : Reps G H own res ds xs) (q : Good G (relV G) own res H Q E (dIdx o ds S)) : rIndexD X.K x xs H Q := by
  unfold dIdx at q
  split at q
  · rename_i y
    split at q
    · rename_i zs d h1 h2
      split at q
      · rename_i hs
        split at q
        · rename_i j hj
          obtain ⟨v, rfl, rv⟩ := r.one'
          obtain ⟨l, rfl⟩ := hl
          obtain ⟨m, z, e1, e2, e3, e4⟩ := firstD_at hj
          have e1 : j = m := by omega
          subst e1
          exact ⟨l, v, d, zs, j, z, rfl, rfl, ro.dp X.K w h1, rv.dp X.K w h2, hs.1, hs.2, e2, e3, e4, q.here w rfl⟩
        · exact q.elim
      · exact q.elim
    · exact q.elim
  · exact q.elim
/-- o.m(e) of a list -/
theorem t_mthL {g : D → List D → Sto → R D} {fl : ExL} {r : V → List V → Hp → VK → Prop} (hp : ∀ own res S H o x ds xs Q, Wd G own res S H → Rep G H own res o x → (∃ l, x = .ref l) → Reps G H own res ds xs → Good G (relV G) own res H Q E (g o ds S) → r x xs H Q) {σ : L2.St} {Q : VK}
    (h : tG G (relV G) E (mthL g fa fl) σ H Q) : tBM X.K "list" r (tG G (relV G) E fa) (tG G (relL G) E fl) σ H Q := by
  obtain ⟨own, res, S, ρ, w, en, q⟩ := h
  refine ⟨own, res, S, ρ, w, en, (Good.bind (r1 := relV G) q).imp fun x H1 ⟨own1, S1, o, g1, w1, r1, q1⟩ => ?_⟩
  split at q1
  · rename_i ys hy
    obtain ⟨l, vs, rfl, hl, rs⟩ := Rep.liOf X.K w1 r1 hy
    refine ⟨.inl ⟨rfl, vs, hl⟩, own1, res, S1, ρ, w1, en.grow g1, (Good.bind (r1 := relL G) q1).imp fun xs H2 ⟨own2, S2, ds, g2, w2, r2, q2⟩ => ?_⟩
    exact hp own2 res S2 H2 o _ ds xs Q w2 (r1.grow g2) ⟨l, rfl⟩ r2 q2
  · exact q1.elim
theorem e_mthL {name : Str} {id : String} {apos cpos : Pos} {es : List Expr} {g : D → List D → Sto → R D} {fl : ExL} {r : V → List V → Hp → VK → Prop} (slot : Slot "list" name id) (hty : typeOf (.builtin id) = pure (.type "method_descriptor")) (hm : MtR X id r)
    (hp : ∀ own res S H o x ds xs Q, Wd G own res S H → Rep G H own res o x → (∃ l, x = .ref l) → Reps G H own res ds xs → Good G (relV G) own res H Q E (g o ds S) → r x xs H Q) (ho : PE X a (tG G (relV G) E fa)) (ha : PA X (e :: es) (tG G (relL G) E fl))
    (hbase : attributeBase a name X.env (eval a X.env) = eval a X.env)
    (hfew : ((backTo cpos (starEach (e :: es) X.env)).all (fun x => !x.1) && (backToKw cpos (keywordEach [] X.env)).all (fun x => x.1.isSome)
      && decide ((e :: es).length + ([] : List Keyword).length + (if ([] : List Keyword).isEmpty then 0 else 1) < 30)) = true)
    (hline : (apos.endLine == cpos.line) = true) (hs : starEach (e :: es) X.env = (false, eval e X.env) :: starEach es X.env) (hplain : (backTo cpos (starEach es X.env)).any (·.1) = false) :
    PE X (.Call (.Attribute a name apos) (e :: es) [] cpos) (tG G (relV G) E (mthL g fa fl)) :=
  pe_imp (pe_bm F.plainAttrs_list slot hty hm ho ha hbase hfew hline hs hplain) fun _ _ _ => t_mthL hp

/-! ## list(x) -/
def rListA (K : PySem.W.Frag) : List V → Hp → VK → Prop := fun xs H Q => (∃ p ys, xs = [.ref p] ∧ (SqL K H p ys ∨ SqT K H p ys) ∧ ∀ l, H l = none → Q (.ref l) (upd H l (.lst ys))) ∨
  ∃ (a : Addr) (kvs : List (Key × V)), xs = [.ref a] ∧ Rd H a (.dK kvs) ∧ ∀ p, H p = none → Q (.ref p) (upd H p (.lst (kvs.map fun kv => kV kv.1)))
theorem call_listA (hc : X.calm = true) : CallR X (.type "list") (rListA X.K) := call_list_of.or (call_listD hc)
/-- a new list as a value -/
def NewOk (G : Gc) (E : XK) (mk : List D → Sto → R D) : Prop := ∀ own res S H ds vs (Q : VK), Wd G own res S H → Reps G H own res ds vs → Good G (relV G) own res H Q E (mk ds S) → ∀ p, H p = none → Q (.ref p) (upd H p (.lst vs))
theorem new_L : NewOk G E mkL := fun own res S H ds vs Q w r q p hp => by
  unfold mkL at q
  split at q
  · exact new_lst w r q hp
  · exact q.elim
theorem new_C : NewOk G E mkC := fun own res S H ds vs Q w r q p hp => by
  unfold mkC at q
  split at q
  · exact new_cell w r q hp
  · exact q.elim
theorem keys_rep : ∀ (kvs : List (Key × V)), Reps G H own res (kvs.map fun p => keyD p.1) (kvs.map fun kv => kV kv.1)
  | [] => rfl
  | (.inl i, v) :: kvs => ⟨.int i, _, rfl, rfl, keys_rep kvs⟩
  | (.inr x, v) :: kvs => ⟨.str x, _, rfl, rfl, keys_rep kvs⟩
theorem ok_list {mk : List D → Sto → R D} (hm : NewOk G E mk) {xs : List V} {ds : List D} {Q : VK} (w : Wd G own res S H) (r : Reps G H own res ds xs) (q : Good G (relV G) own res H Q E (dList mk ds S)) : rListA X.K xs H Q := by
  unfold dList at q
  split at q
  · rename_i x
    obtain ⟨v, rfl, rv⟩ := r.one'
    split at q
    · rename_i ys hy
      obtain ⟨l, vs, rfl, hl, rs⟩ := rv.rdOf X.K w hy
      exact .inl ⟨l, vs, rfl, hl, fun p hp => hm own res S H ys vs Q w rs q p hp⟩
    · split at q
      · rename_i ks vs hd
        obtain ⟨l, kvs, rfl, hl, rfl, rs⟩ := rv.dctOf w hd
        exact .inr ⟨l, kvs, rfl, .inl hl, fun p hp => hm own res S H _ _ Q w (keys_rep kvs) q p hp⟩
      · exact q.elim
  · exact q.elim

/-! ## item stores -/
/-- a target behind which cells may have changed -/
abbrev Tg := D → Env → Sto → R Env
abbrev relE (G : Gc) : Rel Env L2.St := fun H own res ρ σ => EnvR G H own res σ ρ
def TOk (G : Gc) (E : XK) (t : Tg) (g : TG) : Prop := ∀ own res S H σ ρ d v (Q : L2.St → Hp → Prop), Wd G own res S H → EnvR G H own res σ ρ → Rep G H own res d v → Good G (relE G) own res H Q E (t d ρ S) → g v σ H Q
def tgN (i : Nat) : Tg := fun d ρ S => .ok (ρ.set i (some d)) S
abbrev Tgs := List D → Env → Sto → R Env
def tgsN : Tgs := fun ds ρ S => match ds with
  | [] => .ok ρ S
  | _ => .bad
def tgsC (b : Tg) (r : Tgs) : Tgs := fun ds ρ S => match ds with
  | d :: ds => (b d ρ S).bind fun ρ1 S1 => r ds ρ1 S1
  | [] => .bad
def tgT (n : Nat) (b : Tgs) : Tg := fun d ρ S => match d with
  | .tup ds => if ds.length = n then b ds ρ S else .bad
  | _ => .bad
def TsOk (G : Gc) (E : XK) (t : Tgs) (g : TGs) : Prop := ∀ own res S H σ ρ d v (Q : L2.St → Hp → Prop), Wd G own res S H → EnvR G H own res σ ρ → Reps G H own res d v → Good G (relE G) own res H Q E (t d ρ S) → g v σ H Q
theorem tg_name (i : Nat) : TOk G E (tgN i) (gName i) := fun own res S H σ ρ d v Q w en r q => q own H _ (Grow.refl _ _) w (en.set r)
theorem tgs_nil : TsOk G E tgsN gNil := fun own res S H σ ρ d v Q w en r q => by
  cases d with
  | nil => exact ⟨r, q.here w en⟩
  | cons _ _ => exact q.elim
theorem tgs_cons {t : Tg} {ts : Tgs} {g : TG} {gs : TGs} (h1 : TOk G E t g) (h2 : TsOk G E ts gs) : TsOk G E (tgsC t ts) (gCons g gs) := fun own res S H σ ρ d v Q w en r q => by
  cases d with
  | nil => exact q.elim
  | cons x ds =>
    obtain ⟨u, us, rfl, r1, r2⟩ := r
    refine ⟨u, us, rfl, h1 own res S H σ ρ x u _ w en r1 ((Good.bind (r1 := relE G) q).imp fun σ1 H1 ⟨own1, S1, ρ1, g1, w1, en1, q1⟩ => ?_)⟩
    exact h2 own1 res S1 H1 σ1 ρ1 ds us Q w1 en1 (r2.grow g1) q1
theorem tg_tup {K : PySem.W.Frag} {n : Nat} {ts : Tgs} {gs : TGs} (h : TsOk G E ts gs) : TOk G E (tgT n ts) (gTup K n gs) := fun own res S H σ ρ d v Q w en r q => by
  cases d with
  | tup ds =>
    have q : Good G (relE G) own res H Q E (if ds.length = n then ts ds ρ S else .bad) := q
    by_cases hn : ds.length = n
    · rw [if_pos hn] at q
      obtain ⟨l, vs, rfl, hl, rs⟩ := r.tupOf
      exact ⟨l, vs, rfl, SqT.of hl, by rw [← rs.length]; exact hn, h own res S H σ ρ ds vs Q w en rs q⟩
    · rw [if_neg hn] at q
      exact q.elim
  | _ => exact q.elim
/-- a dict with one more pair, or another value at its key -/
def dput (k v : D) (ks vs : List D) : List D × List D :=
  if ks.any (fun a => keq a k) = true then (ks, List.zipWith (fun a x => if keq a k = true then v else x) ks vs) else (ks ++ [k], vs ++ [v])
def dSt (o i v : D) (S : Sto) : R Unit := match o with
  | .m c => match S[c]? with
    | some (.lst xs) => match i with
      | .int k => match ixN xs.length k with
        | some j => .ok () (S.set c (.lst (xs.set j v)))
        | none => .bad
      | _ => .bad
    | some (.dct ks vs) => match keyOfD i with
      | some _ => if ks.length < 16777216 then .ok () (S.set c (.dct (dput i v ks vs).1 (dput i v ks vs).2)) else .bad
      | none => .bad
    | _ => .bad
  | _ => .bad
def tgS (fo fi : Ex) : Tg := fun d ρ S => (fo ρ S).bind fun o S1 => (fi ρ S1).bind fun i S2 => (dSt o i d S2).bind fun _ S3 => .ok ρ S3
theorem dany {k : Key} : ∀ (kvs : List (Key × V)), (kvs.map fun p => keyD p.1).any (fun a => keq a (keyD k)) = kvs.any fun kv => decide (kv.1 = k)
  | [] => rfl
  | p :: kvs => by rw [List.map_cons, List.any_cons, List.any_cons, keq_key, dany kvs]
theorem dmap_rep {k : Key} {d : D} {v : V} (rd : Rep G H own res d v) : ∀ (kvs : List (Key × V)) (vs : List D), Reps G H own res vs (kvs.map (·.2)) →
    Reps G H own res (List.zipWith (fun a x => if keq a (keyD k) = true then d else x) (kvs.map fun p => keyD p.1) vs) ((kvs.map fun kv => if kv.1 = k then (kv.1, v) else kv).map (·.2))
  | [], vs, r => by
    cases vs with
    | nil => rfl
    | cons _ _ => obtain ⟨_, _, e, _⟩ := r; cases e
  | p :: kvs, [], r => by
    have r : (p :: kvs).map (·.2) = [] := r
    cases r
  | p :: kvs, x :: vs, r => by
    obtain ⟨u, w, e, r1, r2⟩ := r
    cases e
    refine ⟨_, _, rfl, ?_, dmap_rep rd kvs vs r2⟩
    dsimp only
    rw [keq_key]
    by_cases hk : p.1 = k
    · rw [if_pos (decide_eq_true hk), if_pos hk]; exact rd
    · rw [if_neg (by simp [hk]), if_neg hk]; exact r1
theorem dput_rep {k : Key} {d : D} {v : V} (rd : Rep G H own res d v) (kvs : List (Key × V)) (vs : List D) (r : Reps G H own res vs (kvs.map (·.2))) : (dput (keyD k) d (kvs.map fun p => keyD p.1) vs).1 = (putK kvs k v).map (fun p => keyD p.1) ∧
    Reps G H own res (dput (keyD k) d (kvs.map fun p => keyD p.1) vs).2 ((putK kvs k v).map (·.2)) := by
  unfold dput putK
  rw [dany]
  by_cases ha : (kvs.any fun kv => decide (kv.1 = k)) = true
  · rw [if_pos ha, if_pos ha]
    refine ⟨?_, dmap_rep rd kvs vs r⟩
    rw [List.map_map]
    refine List.map_congr_left fun p _ => ?_
    by_cases hk : p.1 = k <;> simp [hk]
  · rw [if_neg ha, if_neg ha]
    refine ⟨by simp, ?_⟩
    rw [List.map_append]
    exact r.append (Reps.one rd)
def rSetA : V → V → V → Hp → (Hp → Prop) → Prop := fun o i v H Q => rSetL o i v H Q ∨ rSetD o i v H Q
theorem set_A (hu : X.A.units + 1 < cLine) : PSet X rSetA := fun pins s σ H o i v ov iv u Q I ro ri rv h => by
  rcases h with h | h
  · exact set_list pins s σ H o i v ov iv u Q I ro ri rv h
  · exact set_dict hu pins s σ H o i v ov iv u Q I ro ri rv h
theorem ok_st {o i d : D} {x y v : V} {Q : Hp → Prop} (w : Wd G own res S H) (ro : Rep G H own res o x) (ri : Rep G H own res i y) (rd : Rep G H own res d v)
    (q : Good G (fun _ _ _ _ _ => True) own res H (fun _ H => Q H) E (β := Unit) (dSt o i d S)) : rSetA x y v H Q := by
  unfold dSt at q
  split at q
  · rename_i c
    split at q
    · rename_i xs hc
      split at q
      · rename_i k
        split at q
        · rename_i j hj
          cases ri
          obtain ⟨l, vs, rfl, h1, h2, h3⟩ := cell_at w ro hc
          obtain ⟨g, w2⟩ := put_lst w h1 (Reps.set rd j h3)
          exact .inl ⟨l, vs, k, j, rfl, rfl, h2, by rw [← h3.length]; exact hj, q own _ () g w2 trivial⟩
        · exact q.elim
      · exact q.elim
    · rename_i ks vs hc
      split at q
      · rename_i k hk
        have hi := keyOfD_at hk
        subst hi
        split at q
        · rename_i hz
          obtain ⟨l, rfl, h1⟩ := ro
          obtain ⟨kvs, h2, h3, h4⟩ := w.cell c _ l hc h1
          subst h3
          obtain ⟨e1, e2⟩ := dput_rep (k := k) rd kvs vs h4
          have hl : l ∈ own := List.mem_of_getElem? h1
          have g : Grow own H own (upd H l (.dK (putK kvs k v))) := Grow.write hl
          rw [e1] at q
          rw [keyV ri]
          refine .inr ⟨l, _, rfl, DPut.k h2 (by rw [List.length_map] at hz; rw [sizeLine_eq]; exact hz), q own _ () g (w.write h1 (fun ps z => by cases z) ⟨_, upd_same, rfl, e2.grow g⟩) trivial⟩
        · exact q.elim
      · exact q.elim
    · exact q.elim
  · exact q.elim
theorem tg_sub {fo fi : Ex} : TOk G E (tgS fo fi) (gSub (tG G (relV G) E fo) (tG G (relV G) E fi) rSetA) := fun own res S H σ ρ d v Q w en r q => by
  refine ⟨own, res, S, ρ, w, en, (Good.bind (r1 := relV G) q).imp fun x H1 ⟨own1, S1, o, g1, w1, r1, q1⟩ => ?_⟩
  refine ⟨own1, res, S1, ρ, w1, en.grow g1, (Good.bind (r1 := relV G) q1).imp fun y H2 ⟨own2, S2, i, g2, w2, r2, q2⟩ => ?_⟩
  refine ok_st w2 (r1.grow g2) r2 ((r.grow g1).grow g2) ((Good.bind (r1 := fun _ _ _ _ _ => True) (γ := Env) q2).imp fun _ H3 ⟨own3, S3, _, g3, w3, _, q3⟩ => ?_)
  exact q3.here w3 (((en.grow g1).grow g2).grow g3)
def asT (f : Ex) (t : Tg) : Sm := fun ρ S => (f ρ S).bind fun d S1 => (t d ρ S1).bind fun ρ1 S2 => .ok (.nx ρ1) S2
theorem t_asT {t : Tg} {g : TG} (hg : TOk G E t g) {σ : L2.St} (h : tS G E (asT fa t) Dn σ H) : tAsg (tG G (relV G) E fa) g Dn σ H := by
  obtain ⟨own, res, S, ρ, w, en, q⟩ := h
  refine ⟨own, res, S, ρ, w, en, (GoodS.bind (r1 := relV G) q).imp fun x H1 ⟨own1, S1, d, g1, w1, r1, q1⟩ => ?_⟩
  exact hg own1 res S1 H1 σ ρ d x _ w1 (en.grow g1) r1 ((GoodS.bind (r1 := relE G) q1).imp fun σ2 H2 ⟨own2, S2, ρ2, g2, w2, en2, q2⟩ => q2 own2 H2 σ2 (Grow.refl _ _) w2 en2)
theorem s_asT {tg : Expr} {t : Tg} {g : TG} (hg : PG X tg g) (ok : TOk G E t g) (ha : PE X a (tG G (relV G) E fa)) (hs : swapsWithSole [tg] a pos.line X.env = pure false) (hw : swappedStores [tg] a X.env = pure none)
    (h1 : (assignEach [tg] X.env).map (·.2) = [assign tg X.env]) : PS X (.Assign [tg] a pos) (tS G E (asT fa t)) := ps_imp (ps_asg ha hg hs hw h1) fun _ _ _ => t_asT ok
/-- two or three plain names at once -/
def par2 (i j : Nat) (fl : ExL) : Sm := fun ρ S => (fl ρ S).bind fun ds S1 => match ds with
  | [x, y] => .ok (.nx ((ρ.set i (some x)).set j (some y))) S1
  | _ => .bad
def par3 (i j l : Nat) (fl : ExL) : Sm := fun ρ S => (fl ρ S).bind fun ds S1 => match ds with
  | [x, y, z] => .ok (.nx (((ρ.set i (some x)).set j (some y)).set l (some z))) S1
  | _ => .bad
theorem t_par2 {i j : Nat} {fl : ExL} {σ : L2.St} (h : tS G E (par2 i j fl) Dn σ H) : tPar i j (tG G (relL G) E fl) Dn σ H := by
  obtain ⟨own, res, S, ρ, w, en, q⟩ := h
  refine ⟨own, res, S, ρ, w, en, (GoodS.bind (r1 := relL G) q).imp fun x H1 ⟨own1, S1, d, g1, w1, r1, q1⟩ => ?_⟩
  split at q1
  · rename_i d e
    obtain ⟨v, u, rfl, r3, r2⟩ := r1.two'
    exact ⟨v, u, rfl, q1 own1 H1 _ (Grow.refl _ _) w1 (((en.grow g1).set r3).set r2)⟩
  · exact q1.elim
theorem Reps.three' {d d2 d3 : D} {vs : List V} (r : Reps G H own res [d, d2, d3] vs) : ∃ v v2 v3, vs = [v, v2, v3] ∧ Rep G H own res d v ∧ Rep G H own res d2 v2 ∧ Rep G H own res d3 v3 := by
  obtain ⟨v, w, rfl, h1, h2⟩ := r
  obtain ⟨v2, v3, rfl, h3, h4⟩ := h2.two'
  exact ⟨v, v2, v3, rfl, h1, h3, h4⟩
theorem t_par3 {i j l : Nat} {fl : ExL} {σ : L2.St} (h : tS G E (par3 i j l fl) Dn σ H) : tPar3 i j l (tG G (relL G) E fl) Dn σ H := by
  obtain ⟨own, res, S, ρ, w, en, q⟩ := h
  refine ⟨own, res, S, ρ, w, en, (GoodS.bind (r1 := relL G) q).imp fun x H1 ⟨own1, S1, d, g1, w1, r1, q1⟩ => ?_⟩
  split at q1
  · obtain ⟨v, u, t, rfl, r3, r2, r4⟩ := r1.three'
    exact ⟨v, u, t, rfl, q1 own1 H1 _ (Grow.refl _ _) w1 ((((en.grow g1).set r3).set r2).set r4)⟩
  · exact q1.elim
end
end Ev
namespace Ev
open L2 PySem PySem.Spec PyProof.Rows

/-! ## defs, called: gd tells that no repr is under way -/
structure FnR (gd : Bool) (P : Program) (w : World) (K : PySem.W.Frag) (mg : Str → Option Value) (base : Heap) (CX : CXT) (k : Nat) (f : Addr) (fd : FuncData) (ps : List Str) (sp : Sp) : Prop where
  len : ∀ vs H Q E, sp vs H Q E → vs.length = ps.length
  go : ∀ (A : Around) (outer : List PySem.Env) (s : Shared) (H : Hp) (args : Args) (us : List Value) (vs : List V) (Q : VK) (E : XK), Room k A → (gd = true → A.guards = some []) → Env0 P w K mg base A outer s H → BindsTo s fd args (ps.zip us) → Vals vs us → sp vs H Q E →
    codeAny (model P w) A (.call (.ref f) args) (CR CX outer P w H s Q E) s
theorem FnR.mono {gd : Bool} {P : Program} {w : World} {K : PySem.W.Frag} {mg : Str → Option Value} {base : Heap} {CX : CXT} {j k : Nat} {f : Addr} {fd : FuncData} {ps : List Str} {sp : Sp} (F : FnR gd P w K mg base CX j f fd ps sp) (h : j ≤ k) : FnR gd P w K mg base CX k f fd ps sp :=
  ⟨F.len, fun A outer s H args us vs Q E hr => F.go A outer s H args us vs Q E (hr.mono h)⟩
section
variable {P : Program} {w : World} {K : PySem.W.Frag} {mg : Str → Option Value} {base : Heap} {x qual : Str} {params : Arguments} {body : List Stmt} {scope : Scope} {dvs : List V} {kws : List (Str × V)} {f : Addr} {fd : FuncData}
/-- the def's object and its code -/
def CodeAt (K : PySem.W.Frag) (f : Addr) (fd : FuncData) (qual : Str) (cdv : Value) : Prop := (∃ oc od osl, K.lookup f = some ⟨oc, od, .func fd, osl⟩) ∧ fd.code = cdv ∧ PySem.W.codeIn K cdv qual = true
theorem FnR.of {gd : Bool} {CX : CXT} {N ps : List Str} {k : Nat} {sp : Sp} (F : FunD K x qual params body scope dvs kws f fd) (S : FnScope N ps scope) (len : ∀ vs H Q E, sp vs H Q E → vs.length = ps.length)
    (hb : ∀ (cdv : Value) (A : Around) (outer : List PySem.Env) (s : Shared) (H : Hp) (vs : List V) (Q : VK) (E : XK), CodeAt K f fd qual cdv → Room k (A.deeper (envOfC qual scope s.heap.objs.size f cdv)) → (gd = true → (A.deeper (envOfC qual scope s.heap.objs.size f cdv)).guards = some []) → sp vs H Q E →
      ∃ t, PSs (cxOf CX P w K mg base N qual scope f cdv A outer s H E) body t ∧ t { nx := fun _ H' => Q .non H', rt := Q } (start N vs) H) : FnR gd P w K mg base CX (k + 1) f fd ps sp := by
  obtain ⟨oc, od, dV, kV, doc, pm, an, cdv, ct, osl, rfl, lk, hcd, _, _⟩ := F.ex
  exact ⟨len, fun A outer s H args us vs Q E hr hg e0 hbi r hsp => LamX.run_ofS lk hcd S hr e0 hbi r (len vs H Q E hsp) fun hr2 => hb cdv A outer s H vs Q E ⟨⟨oc, od, osl, lk⟩, rfl, hcd⟩ hr2 hg hsp⟩
theorem FnR.ok {CX : CXT} {k : Nat} {ps : List Str} {sp : Sp} (F : FnR false P w K mg base CX k f fd ps sp) : FnOk P w K mg base CX k f fd ps sp :=
  ⟨F.len, fun A outer s H args us vs Q E hr e0 hb r h => F.go A outer s H args us vs Q E hr (fun z => by cases z) e0 hb r h⟩
end
section
variable {X : Cx} {CX : CXT} {gd : Bool} {k : Nat} {f : Addr} {fd : FuncData} {ps ks : List Str} {sp : Sp} {E : XK} {x : Str} {p pos : Pos} {e : Expr} {es : List Expr} {t tk : TA} {kws : List Keyword}
theorem go_fn {pins : List (Addr × Obj)} {σ : L2.St} {H : Hp} {s : Shared} {Q : VK} {args : Args} {us : List Value} {vs : List V} (F : FnR gd X.prog X.w X.K X.mg X.base CX k f fd ps sp) (hr : Room k X.A) (hg : gd = true → X.A.guards = some []) (hx : Passes CX X E)
    (I : Inv X pins σ H s) (hb : BindsTo s fd args (ps.zip us)) (r : Vals vs us) (h : sp vs H Q E) : wpAny (model X.prog X.w) X.A (PySem.call (.ref f) args.pos args.kw) (EP X pins σ Q) X.xe s := by
  refine wpAny_call (codeAny_mono (F.go X.A X.stack s H args us vs Q E hr hg I.env0 hb r h) fun res s2 hq => ?_)
  cases res with
  | error e => exact hx pins σ H s e s2 I hq
  | ok fl => cases fl with
    | ret u => exact I.after hq
    | next => exact hq.elim
    | brk => exact hq.elim
    | cont => exact hq.elim
/-- f(e, ..) -/
theorem pe_callG (F : FnR gd X.prog X.w X.K X.mg X.base CX k f fd ps sp) (hr : Room k X.A) (hgd : gd = true → X.A.guards = some []) (hg : Gl X x) (hm : X.mg x = some (.ref f)) (hk : PySem.W.keepIn X.K (.ref f) = true) (hb : Binds X.K fd ps []) (hx : Passes CX X E)
    (ha : PA X (e :: es) t) (hdb : (x == ("__debug__" : Str)) = false) (he : starEach (e :: es) X.env = (false, eval e X.env) :: starEach es X.env) (hpl : (backTo pos (starEach es X.env)).any (·.1) = false) :
    PE X (.Call (.Name x p) (e :: es) [] pos) (fun σ H Q => t σ H fun vs H1 => sp vs H1 Q E) := by
  refine ⟨fun pins s σ H Q I h => wpAny_Call_Name_kw (ld_glob I hg hm ?_ hdb)⟩
  refine PySem.W.callWith_K (h₀ := X.base) I.ok.mod.kin hk (thn (ha.run pos pins s σ H _ I h) fun us s1 ⟨vs, H1, I1, r, q⟩ => ⟨I1.kIn, ?_⟩) he hpl
  have hl : us.length = ps.length := by rw [← r.length]; exact F.len _ _ _ _ q
  have b := hb s1 us I1.kIn (by rw [List.append_nil]; exact hl)
  rw [List.append_nil] at b
  exact go_fn (args := ⟨us, []⟩) F hr hgd hx I1 b r q
/-- f() -/
theorem pe_callG0 (F : FnR gd X.prog X.w X.K X.mg X.base CX k f fd ps sp) (hr : Room k X.A) (hgd : gd = true → X.A.guards = some []) (hg : Gl X x) (hm : X.mg x = some (.ref f)) (hk : PySem.W.keepIn X.K (.ref f) = true) (hb : Binds X.K fd ps []) (hx : Passes CX X E)
    (hdb : (x == ("__debug__" : Str)) = false) : PE X (.Call (.Name x p) [] [] pos) (fun σ H Q => sp [] H Q E) := by
  refine ⟨fun pins s σ H Q I h => wpAny_Call_Name_kw (ld_glob I hg hm ?_ hdb)⟩
  have hl : ([] : List V).length = ps.length := F.len _ _ _ _ h
  have b := hb s [] I.kIn hl
  exact PySem.W.callWith_K0 I.kIn hk (go_fn (args := ⟨[], []⟩) (us := []) F hr hgd hx I b .nil h)
/-- f(.., k = v, ..): how values are put in order -/
def prmOf {α : Type} (prm : List Nat) (us ws : List α) : List α := prm.filterMap fun i => (us ++ ws)[i]?
theorem prm_rel {prm : List Nat} {vs : List V} {us : List Value} {zs : List V} {ws : List Value} (r : Vals vs us) (rz : Vals zs ws) : Vals (prmOf prm vs zs) (prmOf prm us ws) := by
  have ra := r.append rz
  unfold prmOf
  induction prm with
  | nil => exact .nil
  | cons i prm ih =>
    rw [List.filterMap_cons, List.filterMap_cons]
    cases hi : (vs ++ zs)[i]? with
    | none =>
      rw [ra.none_of hi]
      exact ih
    | some v =>
      obtain ⟨u, hu, ru⟩ := ra.get hi
      rw [hu]
      exact .cons ru ih
def KBi (K : PySem.W.Frag) (fd : FuncData) (ps : List Str) (n : Nat) (ks : List Str) (prm : List Nat) : Prop :=
  ∀ (s : Shared) (us ws : List Value), K.In s.heap → us.length = n → ws.length = ks.length → BindsTo s fd ⟨us, ks.zip ws⟩ (ps.zip (prmOf prm us ws))
theorem pe_callGK {n : Nat} {prm : List Nat} (F : FnR gd X.prog X.w X.K X.mg X.base CX k f fd ps sp) (hr : Room k X.A) (hgd : gd = true → X.A.guards = some []) (hg : Gl X x) (hm : X.mg x = some (.ref f)) (hk : PySem.W.keepIn X.K (.ref f) = true) (hb : KBi X.K fd ps n ks prm) (hx : Passes CX X E)
    (ha : PA X (e :: es) t) (hkw : PK X kws tk) (hall : (backToKw pos (keywordEach kws X.env)).all (·.1.isSome) = true) (hks : (backToKw pos (keywordEach kws X.env)).filterMap (·.1) = ks)
    (hdb : (x == ("__debug__" : Str)) = false) (he : starEach (e :: es) X.env = (false, eval e X.env) :: starEach es X.env) (hpl : ((backTo pos (starEach (e :: es) X.env)).any (·.1) || (backToKw pos (keywordEach kws X.env)).any (·.1.isNone)) = false) :
    PE X (.Call (.Name x p) (e :: es) kws pos) (fun σ H Q => t σ H fun vs H1 => tk σ H1 fun zs H2 => vs.length = n ∧ zs.length = ks.length ∧ sp (prmOf prm vs zs) H2 Q E) := by
  refine ⟨fun pins s σ H Q I h => wpAny_Call_Name_kw (ld_glob I hg hm ?_ hdb)⟩
  refine PySem.W.callWith_KW (h₀ := X.base) I.ok.mod.kin hk hall (thn (ha.run pos pins s σ H _ I h) fun us s1 ⟨vs, H1, I1, r, q⟩ => ?_) hpl he
  refine thn (hkw.run pos pins s1 σ H1 _ I1 q) fun ws s2 ⟨zs, H2, I2, rz, l1, l2, q2⟩ => ⟨I2.kIn, ?_⟩
  rw [hks]
  exact go_fn (args := ⟨us, ks.zip ws⟩) F hr hgd hx I2 (hb s2 us ws I2.kIn (by rw [← r.length]; exact l1) (by rw [← rz.length]; exact l2)) (prm_rel r rz) q2
theorem pe_callGK0 {prm : List Nat} (F : FnR gd X.prog X.w X.K X.mg X.base CX k f fd ps sp) (hr : Room k X.A) (hgd : gd = true → X.A.guards = some []) (hg : Gl X x) (hm : X.mg x = some (.ref f)) (hk : PySem.W.keepIn X.K (.ref f) = true) (hb : KBi X.K fd ps 0 ks prm) (hx : Passes CX X E)
    (hkw : PK X kws tk) (hall : (backToKw pos (keywordEach kws X.env)).all (·.1.isSome) = true) (hks : (backToKw pos (keywordEach kws X.env)).filterMap (·.1) = ks)
    (hdb : (x == ("__debug__" : Str)) = false) (hpl : ((backTo pos (starEach [] X.env)).any (·.1) || (backToKw pos (keywordEach kws X.env)).any (·.1.isNone)) = false) :
    PE X (.Call (.Name x p) [] kws pos) (fun σ H Q => tk σ H fun zs H2 => zs.length = ks.length ∧ sp (prmOf prm [] zs) H2 Q E) := by
  refine ⟨fun pins s σ H Q I h => wpAny_Call_Name_kw (ld_glob I hg hm ?_ hdb)⟩
  refine PySem.W.callWith_KW0 (h₀ := X.base) I.ok.mod.kin hk hall ?_ hpl
  refine thn (hkw.run pos pins s σ H _ I h) fun ws s2 ⟨zs, H2, I2, rz, l2, q2⟩ => ⟨I2.kIn, ?_⟩
  rw [hks]
  exact go_fn (args := ⟨[], ks.zip ws⟩) F hr hgd hx I2 (hb s2 [] ws I2.kIn rfl (by rw [← rz.length]; exact l2)) (prm_rel .nil rz) q2
end

/-! ## the promise by values -/
abbrev Fn := List D → Sto → R D
def spF (G : Gc) (n : Nat) (f : Fn) : Sp := fun vs H Q E => vs.length = n ∧ ∃ own res S ds, Wd G own res S H ∧ Reps G H own res ds vs ∧ Good G (relV G) own res H Q E (f ds S)
/-- a def as one calls it -/
structure FC where
  ps : List Str
  call : Fn
  gd : Bool
  kw : Nat → List Str → Option (List Nat)
def FnK (X : Cx) (G : Gc) (k : Nat) (x : Str) (F : FC) : Prop := ∃ f fd, FnR F.gd X.prog X.w X.K X.mg X.base (L2.CX X.prog X.w) k f fd F.ps (spF G F.ps.length F.call) ∧ X.mg x = some (.ref f) ∧ PySem.W.keepIn X.K (.ref f) = true ∧ Binds X.K fd F.ps [] ∧
  ∀ n ks prm, F.kw n ks = some prm → KBi X.K fd F.ps n ks prm
def clP (n : Nat) (f : Fn) (fl : ExL) : Ex := fun ρ S => (fl ρ S).bind fun ds S1 => if ds.length = n then f ds S1 else .bad
def clK (m : Nat) (n nk : Nat) (prm : List Nat) (f : Fn) (fl fk : ExL) : Ex := fun ρ S => (fl ρ S).bind fun ds S1 => (fk ρ S1).bind fun es S2 => if ds.length = n ∧ es.length = nk ∧ (prmOf prm ds es).length = m then f (prmOf prm ds es) S2 else .bad
section
variable {X : Cx} {G : Gc} {E : XK} {k : Nat} {x : Str} {F : FC} {p pos : Pos} {e : Expr} {es : List Expr} {kws : List Keyword} {fl fk : ExL} {H : Hp} {own res : List Addr} {S : Sto}
theorem t_clP {n : Nat} {f : Fn} {σ : L2.St} {Q : VK} (h : tG G (relV G) E (clP n f fl) σ H Q) : tG G (relL G) E fl σ H fun vs H1 => spF G n f vs H1 Q E := by
  obtain ⟨own, res, S, ρ, w, en, q⟩ := h
  refine ⟨own, res, S, ρ, w, en, (Good.bind (r1 := relL G) q).imp fun vs H1 ⟨own1, S1, ds, g1, w1, r1, q1⟩ => ?_⟩
  by_cases hn : ds.length = n
  · rw [if_pos hn] at q1
    exact ⟨by rw [← r1.length]; exact hn, own1, res, S1, ds, w1, r1, q1⟩
  · rw [if_neg hn] at q1
    exact q1.elim
theorem e_call (fk : FnK X G k x F) (hr : Room k X.A) (hgd : F.gd = true → X.A.guards = some []) (hg : Gl X x) (hx : Passes (L2.CX X.prog X.w) X E) (ha : PA X (e :: es) (tG G (relL G) E fl)) (hdb : (x == ("__debug__" : Str)) = false)
    (he : starEach (e :: es) X.env = (false, eval e X.env) :: starEach es X.env) (hpl : (backTo pos (starEach es X.env)).any (·.1) = false) : PE X (.Call (.Name x p) (e :: es) [] pos) (tG G (relV G) E (clP F.ps.length F.call fl)) := by
  obtain ⟨f, fd, h1, h2, h3, h4, _⟩ := fk
  exact pe_imp (pe_callG h1 hr hgd hg h2 h3 h4 hx ha hdb he hpl) fun _ _ _ => t_clP
theorem e_call0 (fk : FnK X G k x F) (hr : Room k X.A) (hgd : F.gd = true → X.A.guards = some []) (hg : Gl X x) (hx : Passes (L2.CX X.prog X.w) X E) (hdb : (x == ("__debug__" : Str)) = false) : PE X (.Call (.Name x p) [] [] pos) (tG G (relV G) E (clP F.ps.length F.call arN)) := by
  obtain ⟨f, fd, h1, h2, h3, h4, _⟩ := fk
  refine pe_imp (pe_callG0 h1 hr hgd hg h2 h3 h4 hx hdb) fun σ H Q h => ?_
  obtain ⟨own, res, S, ρ, w, en, q⟩ := t_clP h
  exact q own H [] (Grow.refl _ _) w Reps.nil
/-- prmOf of trees -/
theorem Reps.prm {prm : List Nat} {ds es : List D} {vs zs : List V} (r : Reps G H own res ds vs) (rz : Reps G H own res es zs) : Reps G H own res (prmOf prm ds es) (prmOf prm vs zs) := by
  have ra := r.append rz
  unfold prmOf
  induction prm with
  | nil => exact Reps.nil
  | cons i prm ih =>
    rw [List.filterMap_cons, List.filterMap_cons]
    cases hi : (ds ++ es)[i]? with
    | none =>
      have : (vs ++ zs)[i]? = none := by
        have hl := ra.length
        rw [List.getElem?_eq_none_iff] at hi ⊢
        omega
      rw [this]
      exact ih
    | some v =>
      obtain ⟨u, hu, ru⟩ := ra.get hi
      rw [hu]
      exact Reps.cons ru ih
theorem e_callK {n : Nat} {ks : List Str} {prm : List Nat} (fk' : FnK X G k x F) (hp : F.kw n ks = some prm) (hr : Room k X.A) (hgd : F.gd = true → X.A.guards = some []) (hg : Gl X x) (hx : Passes (L2.CX X.prog X.w) X E) (ha : PA X (e :: es) (tG G (relL G) E fl)) (hkw : PK X kws (tG G (relL G) E fk))
    (hall : (backToKw pos (keywordEach kws X.env)).all (·.1.isSome) = true) (hks : (backToKw pos (keywordEach kws X.env)).filterMap (·.1) = ks)
    (hdb : (x == ("__debug__" : Str)) = false) (he : starEach (e :: es) X.env = (false, eval e X.env) :: starEach es X.env) (hpl : ((backTo pos (starEach (e :: es) X.env)).any (·.1) || (backToKw pos (keywordEach kws X.env)).any (·.1.isNone)) = false) :
    PE X (.Call (.Name x p) (e :: es) kws pos) (tG G (relV G) E (clK F.ps.length n ks.length prm F.call fl fk)) := by
  obtain ⟨f, fd, h1, h2, h3, _, h4⟩ := fk'
  refine pe_imp (pe_callGK h1 hr hgd hg h2 h3 (h4 n ks prm hp) hx ha hkw hall hks hdb he hpl) fun σ H Q h => ?_
  obtain ⟨own, res, S, ρ, w, en, q⟩ := h
  refine ⟨own, res, S, ρ, w, en, (Good.bind (r1 := relL G) q).imp fun vs H1 ⟨own1, S1, ds, g1, w1, r1, q1⟩ => ?_⟩
  refine ⟨own1, res, S1, ρ, w1, en.grow g1, (Good.bind (r1 := relL G) q1).imp fun zs H2 ⟨own2, S2, es, g2, w2, r2, q2⟩ => ?_⟩
  split at q2
  · rename_i hl
    have r3 := (r1.grow g2).prm (prm := prm) r2
    exact ⟨by rw [← r1.length]; exact hl.1, by rw [← r2.length]; exact hl.2.1, by rw [← r3.length]; exact hl.2.2, own2, res, S2, _, w2, r3, q2⟩
  · exact q2.elim
theorem e_callK0 {ks : List Str} {prm : List Nat} (fk' : FnK X G k x F) (hp : F.kw 0 ks = some prm) (hr : Room k X.A) (hgd : F.gd = true → X.A.guards = some []) (hg : Gl X x) (hx : Passes (L2.CX X.prog X.w) X E) (hkw : PK X kws (tG G (relL G) E fk))
    (hall : (backToKw pos (keywordEach kws X.env)).all (·.1.isSome) = true) (hks : (backToKw pos (keywordEach kws X.env)).filterMap (·.1) = ks)
    (hdb : (x == ("__debug__" : Str)) = false) (hpl : ((backTo pos (starEach [] X.env)).any (·.1) || (backToKw pos (keywordEach kws X.env)).any (·.1.isNone)) = false) :
    PE X (.Call (.Name x p) [] kws pos) (tG G (relV G) E (clK F.ps.length 0 ks.length prm F.call arN fk)) := by
  obtain ⟨f, fd, h1, h2, h3, _, h4⟩ := fk'
  refine pe_imp (pe_callGK0 h1 hr hgd hg h2 h3 (h4 0 ks prm hp) hx hkw hall hks hdb hpl) fun σ H Q h => ?_
  obtain ⟨own, res, S, ρ, w, en, q⟩ := h
  have q : Good G (relV G) own res H Q E ((fk ρ S).bind fun es S2 => if ([] : List D).length = 0 ∧ es.length = ks.length ∧ (prmOf prm [] es).length = F.ps.length then F.call (prmOf prm [] es) S2 else .bad) := q
  refine ⟨own, res, S, ρ, w, en, (Good.bind (r1 := relL G) q).imp fun zs H2 ⟨own2, S2, es, g2, w2, r2, q2⟩ => ?_⟩
  split at q2
  · rename_i hl
    have r3 := (Reps.nil (G := G) (H := H2) (own := own2) (res := res)).prm (prm := prm) r2
    exact ⟨by rw [← r2.length]; exact hl.2.1, by rw [← r3.length]; exact hl.2.2, own2, res, S2, _, w2, r3, q2⟩
  · exact q2.elim
/-- keywords' values -/
theorem k_nil : PK X [] (tG G (relL G) E arN) := ⟨fun pos pins s σ H Q I ⟨own, res, S, ρ, w, en, q⟩ => pk_nil.run pos pins s σ H Q I (q own H [] (Grow.refl _ _) w Reps.nil)⟩
theorem k_cons {nm : Option Str} {kpos : Pos} {fa : Ex} (ha : PE X e (tG G (relV G) E fa)) (hr : PK X kws (tG G (relL G) E fk)) : PK X (⟨nm, e, kpos⟩ :: kws) (tG G (relL G) E (arC fa fk)) :=
  ⟨fun pos pins s σ H Q I ⟨own, res, S, ρ, w, en, q⟩ => (pk_cons ha hr).run pos pins s σ H Q I ⟨own, res, S, ρ, w, en, (Good.bind (r1 := relV G) q).imp fun x H1 ⟨own1, S1, d, g1, w1, r1, q1⟩ =>
      ⟨own1, res, S1, ρ, w1, en.grow g1, (Good.bind (r1 := relL G) q1).imp fun xs H2 ⟨own2, S2, ds, g2, w2, r2, q2⟩ => q2.here w2 (Reps.cons (r1.grow g2) r2)⟩⟩⟩
end
end Ev
namespace Ev
open L2 PySem PySem.Spec PyProof.Rows

/-! ## dicts with int and text keys -/
def prs : List D → Option (List (D × D))
  | [] => some []
  | .tup [k, v] :: r => match keyOfD k with
    | some _ => (prs r).map fun l => (k, v) :: l
    | none => none
  | _ :: _ => none
def dmerge : List (D × D) → List D → List D → List D × List D
  | [], ks, vs => (ks, vs)
  | (k, v) :: r, ks, vs => dmerge r (dput k v ks vs).1 (dput k v ks vs).2
def dDict (as : List D) (S : Sto) : R D := match as with
  | [x] => match (liOf S x).bind prs with
    | some l => .ok (.dct (dmerge l [] []).1 (dmerge l [] []).2) S
    | none => .bad
  | _ => .bad
def dItems (x : D) (S : Sto) : R D := match dctOf S x with
  | some (ks, vs) => .ok (.lst (List.zipWith (fun k v => .tup [k, v]) ks vs)) S
  | none => .bad
def newD : Ex := fun _ S => .ok (.dct [] []) S
def newDC : Ex := fun _ S => .ok (.m S.length) (S ++ [.dct [] []])
section
variable {X : Cx} {G : Gc} {E : XK} {a b c e : Expr} {fa fb fc : Ex} {pos p : Pos} {H H1 H' : Hp} {own own1 own' res res' : List Addr} {S S' : Sto} {Dn : Ends}
theorem prs_rep : ∀ {ds : List D} {vs : List V} {l : List (D × D)}, Reps G H own res ds vs → prs ds = some l → ∃ (ps : List Addr) (kvs : List (Key × V)), vs = ps.map V.ref ∧ Paired (fun p kv => H p = some (.tup [kV kv.1, kv.2])) ps kvs ∧ Paired (fun (d : D × D) (kv : Key × V) => d.1 = keyD kv.1 ∧ Rep G H own res d.2 kv.2) l kvs
  | [], vs, l, r, h => by
    have r : vs = [] := r
    cases h
    exact ⟨[], [], by rw [r]; rfl, .nil, .nil⟩
  | d :: ds, vs, l, r, h => by
    obtain ⟨v, w, rfl, r1, r2⟩ := r
    unfold prs at h
    split at h
    · rename_i e; cases e
    · rename_i k x r0 e
      cases e
      split at h
      · rename_i kk hk
        obtain ⟨l2, h1, rfl⟩ := Option.map_eq_some_iff.mp h
        have e1 := keyOfD_at hk
        subst e1
        obtain ⟨t, us, rfl, ht, _, _, ru⟩ := r1
        obtain ⟨u1, u2, rfl, q1, q2⟩ := Reps.two' ru
        obtain ⟨ps, kvs, rfl, p1, p2⟩ := prs_rep r2 h1
        exact ⟨t :: ps, (kk, u2) :: kvs, rfl, .cons (by rw [ht, keyV q1]) p1, .cons ⟨rfl, q2⟩ p2⟩
      · cases h
    · cases h
theorem merge_rep : ∀ {l : List (D × D)} {kvs acc : List (Key × V)} {vs : List D}, Paired (fun (d : D × D) (kv : Key × V) => d.1 = keyD kv.1 ∧ Rep G H own res d.2 kv.2) l kvs → Reps G H own res vs (acc.map (·.2)) →
    (dmerge l (acc.map fun p => keyD p.1) vs).1 = (mergeK acc kvs).map (fun p => keyD p.1) ∧ Reps G H own res (dmerge l (acc.map fun p => keyD p.1) vs).2 ((mergeK acc kvs).map (·.2))
  | _, _, acc, vs, .nil, r => ⟨rfl, r⟩
  | _, _, acc, vs, .cons (a := d) (b := kv) h t, r => by
    obtain ⟨dk, dv⟩ := d
    obtain ⟨h1, h2⟩ := h
    have h1 : dk = keyD kv.1 := h1
    subst h1
    obtain ⟨e1, e2⟩ := dput_rep (k := kv.1) h2 acc vs r
    have ih := merge_rep t e2
    rw [← e1] at ih
    exact ih
/-- a new dict -/
theorem new_dct {ks : List D} {ds : List D} {kvs : List (Key × V)} {Q : VK} (w : Wd G own res S H) (hk : ks = kvs.map fun p => keyD p.1) (r : Reps G H own res ds (kvs.map (·.2))) (q : Good G (relV G) own res H Q E (.ok (.dct ks ds) S)) {p : Addr} (hp : H p = none) : Q (.ref p) (upd H p (.dK kvs)) := by
  have n := w.fresh hp
  exact q own _ _ (Grow.laid hp n.1) (w.laid hp) ⟨p, kvs, rfl, upd_same, n.1, n.2, hk, r.laid hp n.1⟩
theorem ok_dict {xs : List V} {ds : List D} {Q : VK} (w : Wd G own res S H) (r : Reps G H own res ds xs) (q : Good G (relV G) own res H Q E (dDict ds S)) :
    ∃ (a : Addr) (ps : List Addr) (kvs : List (Key × V)), xs = [.ref a] ∧ SqL X.K H a (ps.map V.ref) ∧ Paired (fun p kv => SqT X.K H p [kV kv.1, kv.2]) ps kvs ∧ ∀ p, H p = none → Q (.ref p) (upd H p (.dK (mergeK [] kvs))) := by
  unfold dDict at q
  split at q
  · obtain ⟨v, rfl, rv⟩ := r.one'
    split at q
    · rename_i l hl
      obtain ⟨ys, h1, h2⟩ := Option.bind_eq_some_iff.mp hl
      obtain ⟨lp, vs, rfl, hq, rs⟩ := rv.liOf X.K w h1
      obtain ⟨ps, kvs, rfl, p1, p2⟩ := prs_rep rs h2
      obtain ⟨e1, e2⟩ := merge_rep (acc := []) (vs := []) p2 Reps.nil
      refine ⟨lp, ps, kvs, rfl, hq, ?_, fun p hp => new_dct w e1 e2 q hp⟩
      clear hq p2 e1 e2 rs
      induction p1 with
      | nil => exact .nil
      | cons h t ih => exact .cons (SqT.of h) ih
    · exact q.elim
  · exact q.elim
theorem e_newD : PE X (.Dict [] [] pos) (tG G (relV G) E newD) := pe_imp pe_dnewK fun σ H Q ⟨own, res, S, ρ, w, en, q⟩ p hp => new_dct w (kvs := []) rfl Reps.nil q hp
theorem e_newDC : PE X (.Dict [] [] pos) (tG G (relV G) E newDC) := pe_imp pe_dnewK fun σ H Q ⟨own, res, S, ρ, w, en, q⟩ p hp => by
  have g : Grow own H (own ++ [p]) (upd H p (.dK [])) := Grow.cell hp
  refine q (own ++ [p]) _ _ g (w.push hp ⟨[], upd_same, rfl, Reps.nil⟩) ⟨p, rfl, ?_⟩
  rw [← w.len, List.getElem?_append_right (Nat.le_refl _)]
  simp
/-- {'x': v}: one text -/
def disp1 (x : Str) (f : Ex) : Ex := fun ρ S => (f ρ S).bind fun d S1 => if flatD d = true then .ok (.dct [.str x] [d]) S1 else .bad
/-! ### list(d.items()) -/
theorem Reps.pairs (hn : ∀ t, H t = none → t ∉ own ∧ t ∉ res) {H' : Hp} (he : ∀ b o, H b = some o → H' b = some o) : ∀ {ts : List Addr} {kvs : List (Key × V)} {vs : List D}, (∀ t ∈ ts, H t = none) → Paired (fun (t : Addr) (q : Key × V) => H' t = some (.tup [kV q.1, q.2])) ts kvs →
    Reps G H' own res vs (kvs.map (·.2)) → Reps G H' own res (List.zipWith (fun k v => D.tup [k, v]) (kvs.map fun p => keyD p.1) vs) (ts.map V.ref)
  | [], [], vs, _, _, r => rfl
  | t :: ts, kv :: kvs, vs, hf, .cons h p, r => by
    cases vs with
    | nil => cases (show (kv :: kvs).map (·.2) = [] from r)
    | cons d vs =>
      obtain ⟨u, w, e, r1, r2⟩ := r
      cases e
      have n := hn t (hf t List.mem_cons_self)
      refine ⟨_, _, rfl, ⟨t, _, rfl, h, n.1, n.2, .cons ?_ (Reps.one r1)⟩, Reps.pairs hn he (fun t ht => hf t (List.mem_cons_of_mem _ ht)) p r2⟩
      obtain ⟨k, v⟩ := kv
      cases k <;> rfl
theorem Grow.ext (he : ∀ b o, H b = some o → H' b = some o) : Grow own H own H' := ⟨⟨[], by simp⟩, fun a o h _ _ => he a o h, fun a h n => absurd h n⟩
theorem Wd.ext (w : Wd G own res S H) (he : ∀ b o, H b = some o → H' b = some o) : Wd G own res S H' := by
  refine ⟨w.len, w.nod, w.dis, fun k o a h1 h2 => ?_, fun a h => ?_, w.tabs.ext he⟩
  · have cc := w.cell k o a h1 h2
    obtain ⟨u, hu, _⟩ := cc.there
    exact cc.mono (fun a o e _ _ _ => he a o e) (fun a o e n _ _ => n) (fun a z => .inl z) (fun i a e => e) (by rw [hu]; exact he a u hu)
  · obtain ⟨u, e, t⟩ := w.rest a h
    exact ⟨u, he a u e, t⟩
theorem e_items {apos cpos : Pos} (hc : X.calm = true) (ha : PE X a (tG G (relV G) E fa)) (hg : Gl X "list") (hm : X.mg "list" = none) (hbase : attributeBase a "items" X.env (eval a X.env) = eval a X.env) (hline : (apos.endLine == cpos.line) = true) :
    PE X (.Call (.Name "list" p) [.Call (.Attribute a "items" apos) [] [] cpos] [] pos) (tG G (relV G) E (un1 dItems fa)) :=
  pe_imp (LiI.pe_listItems hc ha hg hm boot_list hbase hline (by rfl)) fun σ H Q ⟨own, res, S, ρ, w, en, q⟩ => by
    refine ⟨own, res, S, ρ, w, en, (Good.bind (r1 := relV G) q).imp fun x H1 ⟨own1, S1, d, g1, w1, r1, q1⟩ => ?_⟩
    unfold dItems at q1
    split at q1
    · rename_i ks vs hd
      obtain ⟨l, kvs, rfl, hl, rfl, rs⟩ := r1.dctOf w1 hd
      refine ⟨l, kvs, rfl, hl, fun H2 p ts he hp hts hnp h1 h2 => ?_⟩
      have n := w1.fresh hp
      have g2 : Grow own1 H1 own1 H2 := Grow.ext he
      exact q1 own1 H2 _ g2 (w1.ext he) ⟨p, _, rfl, h1, n.1, n.2, Reps.pairs (fun t ht => w1.fresh ht) he hts h2 (rs.grow g2)⟩
    · exact q1.elim
end
end Ev
namespace Ev
open L2 PySem PySem.Spec PyProof.Rows

/-! ## dicts whose keys are tuples -/
section
variable {X : Cx} {G : Gc} {E : XK} {a b c e : Expr} {fa fb fc : Ex} {pos p : Pos} {H H1 H' : Hp} {own own1 own' res res' : List Addr} {S S' : Sto} {Dn : Ends}
def NK (G : Gc) (H : Hp) (k : NestedKey) (v : V) : Prop := ∃ own res d, Rep G H own res d v ∧ nkD d = some k
mutual
theorem nk_is {pins : List (Addr × Obj)} {σ : L2.St} {s : Shared} (I : Inv X pins σ H s) : ∀ (d : D) (v : V) (u : Value) (k : NestedKey), Rep G H own res d v → RelV v u → nkD d = some k → NestedIs s.heap k u
  | .non, _, _, _, r, rv, h => by cases r; cases rv; cases h; exact .none
  | .int i, _, _, _, r, rv, h => by
    cases r
    obtain ⟨t, rfl⟩ := rv
    cases h
    exact .int i t
  | .str x, _, _, _, r, rv, h => by
    cases r
    obtain ⟨t, rfl⟩ := rv
    cases h
    exact .text x t
  | .tup ds, v, u, k, r, rv, h => by
    obtain ⟨a, vs, rfl, h1, h2⟩ := r.tupOf
    obtain rfl : u = Value.ref a := rv
    obtain ⟨ks, h3, rfl⟩ := Option.map_eq_some_iff.mp (show (nksD ds).map NestedKey.tup = some k from h)
    obtain ⟨its, rvs, pl, _⟩ := I.tuple (SqT.of h1)
    obtain ⟨o, e1, e2, n, e3⟩ := pl
    exact .tup e1 e2 e3 (by simpa using nks_is I ds vs its ks h2 rvs h3)
  | .bl _, _, _, _, _, _, h | .lst _, _, _, _, _, _, h | .frz _, _, _, _, _, _, h | .dct _ _, _, _, _, _, _, h | .m _, _, _, _, _, _, h | .fn _, _, _, _, _, _, h | .cl _, _, _, _, _, _, h | .ty _, _, _, _, _, _, h => by cases h
theorem nks_is {pins : List (Addr × Obj)} {σ : L2.St} {s : Shared} (I : Inv X pins σ H s) : ∀ (ds : List D) (vs : List V) (us : List Value) (ks : List NestedKey), Reps G H own res ds vs → Vals vs us → nksD ds = some ks → NestedAll s.heap ks us
  | [], vs, us, ks, r, rv, h => by
    have r : vs = [] := r
    subst r
    cases rv
    cases h
    exact .nil
  | d :: ds, vs, us, ks, r, rv, h => by
    obtain ⟨v, w, rfl, r1, r2⟩ := r
    cases rv with
    | cons q qs =>
      have h : (match nkD d, nksD ds with | some k, some ks => some (k :: ks) | _, _ => none) = some ks := h
      cases h1 : nkD d with
      | none => rw [h1] at h; cases h
      | some k =>
        cases h2 : nksD ds with
        | none => rw [h1, h2] at h; cases h
        | some kk =>
          rw [h1, h2] at h
          cases h
          exact .cons (nk_is I d v _ k r1 q h1) (nks_is I ds w _ kk r2 qs h2)
end
theorem NK.is {pins : List (Addr × Obj)} {σ : L2.St} {s : Shared} (I : Inv X pins σ H s) {k : NestedKey} {v : V} {u : Value} (h : NK G H k v) (r : RelV v u) : NestedIs s.heap k u := by
  obtain ⟨own, res, d, h1, h2⟩ := h
  exact nk_is I d v u k h1 r h2
abbrev zw (es : List (NestedKey × Addr × V)) (us : List Value) : List (NestedKey × Addr × Value) := List.zipWith (fun e u => ((e.1, e.2.1, u) : NestedKey × Addr × Value)) es us
theorem zw_keys : ∀ {es : List (NestedKey × Addr × V)} {us : List Value}, es.length = us.length → (zw es us).map (·.1) = es.map (·.1)
  | [], _, _ => rfl
  | _ :: _, [], h => by cases h
  | e :: es, u :: us, h => by
    show e.1 :: (zw es us).map (·.1) = e.1 :: es.map (·.1)
    rw [zw_keys (Nat.succ.inj h)]
theorem zw_mem {x : NestedKey × Addr × Value} : ∀ {es : List (NestedKey × Addr × V)} {us : List Value}, x ∈ zw es us → ∃ e, e ∈ es ∧ x.1 = e.1 ∧ x.2.1 = e.2.1
  | [], _, h => by cases h
  | _ :: _, [], h => by cases h
  | e :: es, u :: us, h => by
    rcases List.mem_cons.mp (show x ∈ (e.1, e.2.1, u) :: zw es us from h) with z | z
    · exact ⟨e, List.mem_cons_self, by rw [z], by rw [z]⟩
    · obtain ⟨e', h1, h2⟩ := zw_mem z
      exact ⟨e', List.mem_cons_of_mem _ h1, h2⟩
theorem zw_snoc {k : NestedKey} {a : Addr} {v : V} {u : Value} : ∀ {es : List (NestedKey × Addr × V)} {us : List Value}, es.length = us.length → zw (es ++ [(k, a, v)]) (us ++ [u]) = zw es us ++ [(k, a, u)]
  | [], [], _ => rfl
  | [], _ :: _, h => by cases h
  | _ :: _, [], h => by cases h
  | e :: es, w :: us, h => by
    show (e.1, e.2.1, w) :: zw (es ++ [(k, a, v)]) (us ++ [u]) = (e.1, e.2.1, w) :: (zw es us ++ [(k, a, u)])
    rw [zw_snoc (Nat.succ.inj h)]
theorem zw_any {k : NestedKey} {es : List (NestedKey × Addr × V)} {us : List Value} (h : es.length = us.length) : (atKey (zw es us) k).isSome = es.any fun e => decide (e.1 = k) := by
  rw [← any_pairsH]
  have e1 : (pairsH (zw es us)).map (·.1) = es.map (·.1) := by rw [← zw_keys h]; simp [pairsH]
  have e2 : ∀ (l : List (NestedKey × Value)), (l.any fun kv => decide (kv.1 = k)) = (l.map (·.1)).any fun x => decide (x = k) := fun l => by rw [List.any_map]; rfl
  rw [e2, e1, List.any_map]
  rfl
/-- the dict at b as the heap has it -/
theorem nd_at {pins : List (Addr × Obj)} {σ : L2.St} {s : Shared} {b : Addr} {es : List (NestedKey × Addr × V)} (I : Inv X pins σ H s) (pw : G.prog = X.prog ∧ G.w = X.w) (hb : H b = some (NdO G b es)) (hk : ∀ e, e ∈ es → NK G H e.1 (.ref e.2.1) ∧ e.1.depth ≤ 8) :
    (b == sysModules) = false ∧ es.length ≤ sizeLine ∧ ∃ us : List Value, es.length = us.length ∧ Vals (es.map (·.2.2)) us ∧ s.heap.DictOfH (nestedKind X.prog X.w) b (zw es us) := by
  have ok : ObjOk X.prog X.w H s.heap b (NdO G b es) := I.hok b _ hb
  obtain ⟨⟨hz, hs, hn, us, o, arr, ep, hv, e1, e2, e3, e4⟩, _, _⟩ := ok
  rw [pw.1, pw.2] at e4
  have hl : es.length = us.length := by
    have := hv.length
    simpa using this
  refine ⟨hs, hz, us, hl, hv, o, arr, ep, e1, e2, e3, e4, fun x hx => ?_, by rw [zw_keys hl]; exact hn⟩
  obtain ⟨e, he, x1, x2⟩ := zw_mem hx
  obtain ⟨h1, h2⟩ := hk e he
  rw [x1, x2]
  exact ⟨h1.is I rfl, h2⟩
/-- x in d -/
def rInN (G : Gc) (neg : Bool) : R2 := fun x y H Q => ∃ (a b : Addr) (k : NestedKey) (es : List (NestedKey × Addr × V)), x = .ref a ∧ y = .ref b ∧ H b = some (NdO G b es) ∧ (NK G H k (.ref a) ∧ k.depth ≤ 8) ∧ (∀ e, e ∈ es → NK G H e.1 (.ref e.2.1) ∧ e.1.depth ≤ 8) ∧ Q (.bl (neg ^^ es.any fun e => decide (e.1 = k))) H
theorem op_inN (hu : X.A.units + 65 < cLine) (pw : G.prog = X.prog ∧ G.w = X.w) : OpR X (compareOp .In) (rInN G false) := by
  intro pins s σ H x y v u Q I rx ry h
  obtain ⟨a, b, k, es, rfl, rfl, hb, ⟨h1, h2⟩, hk, q⟩ := h
  obtain rfl : v = Value.ref a := rx
  obtain rfl : u = Value.ref b := ry
  obtain ⟨hs, hz, us, hl, hv, hd⟩ := nd_at I pw hb hk
  refine in_keyed (knd := nestedKind X.prog X.w) (k := k) (show X.A.units + 1 + 8 < cLine by omega) ⟨h1.is I rfl, h2⟩ hs ⟨_, hd, rfl⟩ ?_
  rw [valueAt_pairsH, Option.isSome_map, zw_any hl]
  exact ⟨.bl _, H, I.tok _, rfl, by simpa using q⟩
theorem op_notInN (hu : X.A.units + 65 < cLine) (pw : G.prog = X.prog ∧ G.w = X.w) : OpR X (compareOp .NotIn) (rInN G true) := by
  intro pins s σ H x y v u Q I rx ry h
  obtain ⟨a, b, k, es, rfl, rfl, hb, ⟨h1, h2⟩, hk, q⟩ := h
  obtain rfl : v = Value.ref a := rx
  obtain rfl : u = Value.ref b := ry
  obtain ⟨hs, hz, us, hl, hv, hd⟩ := nd_at I pw hb hk
  refine notIn_keyed (knd := nestedKind X.prog X.w) (k := k) (show X.A.units + 1 + 8 < cLine by omega) ⟨h1.is I rfl, h2⟩ hs ⟨_, hd, rfl⟩ ?_
  rw [valueAt_pairsH, Option.isSome_map, zw_any hl]
  exact ⟨.bl _, H, I.tok _, rfl, by simpa using q⟩
/-- d[x] = v, x not there as yet -/
def rSetN (G : Gc) : TSet := fun o i v H Q => ∃ (b a : Addr) (k : NestedKey) (es : List (NestedKey × Addr × V)), o = .ref b ∧ i = .ref a ∧ H b = some (NdO G b es) ∧ (NK G H k (.ref a) ∧ k.depth ≤ 8) ∧ (∀ e, e ∈ es → NK G H e.1 (.ref e.2.1) ∧ e.1.depth ≤ 8) ∧
  (es.any fun e => decide (e.1 = k)) = false ∧ es.length < sizeLine ∧ Q (upd H b (NdO G b (es ++ [(k, a, v)])))
theorem set_N (hu : X.A.units + 65 < cLine) (pw : G.prog = X.prog ∧ G.w = X.w) : PSet X (rSetN G) := by
  intro pins s σ H o i v ov iv u Q I ro ri rv h
  obtain ⟨b, a, k, es, rfl, rfl, hb, ⟨h1, h2⟩, hk, hno, hlt, q⟩ := h
  obtain rfl : ov = Value.ref b := ro
  obtain rfl : iv = Value.ref a := ri
  obtain ⟨hs, hz, us, hl, hv, hd⟩ := nd_at I pw hb hk
  refine wpAny_setItem_heap (knd := nestedKind X.prog X.w) (k := k) (hsz := by rw [List.length_zipWith]; omega) (show X.A.units + 1 + 8 < cLine by omega) ⟨h1.is I rfl, h2⟩ hd fun h' hd' sb => ?_
  have hn : atKey (zw es us) k = none := by
    have := zw_any (k := k) hl
    rw [hno] at this
    cases hz : atKey (zw es us) k with
    | none => rfl
    | some _ => rw [hz] at this; cases this
  rw [storedH_new hn, ← zw_snoc (v := v) hl] at hd'
  obtain ⟨ob, arr, ep, e1, e2, e3, e4, e5, e6⟩ := hd'
  have hl2 : (es ++ [(k, a, v)]).length = (us ++ [u]).length := by simp [hl]
  refine ⟨_, d_write (t' := s.toks + (nestedKind X.prog X.w).draws k) (ob := NdO G b (es ++ [(k, a, v)])) I (by rw [hb]; exact True.intro) sb ⟨ob, e1⟩ ?_, q⟩
  refine ⟨⟨by rw [List.length_append, List.length_singleton]; omega, hs, by rw [← zw_keys hl2]; exact e6, us ++ [u], ob, arr, ep, ?_, e1, e2, e3, by rw [pw.1, pw.2]; exact e4⟩, ⟨ob, e1⟩, fun q1 q2 z k => ?_⟩
  · rw [List.map_append]
    exact hv.append (.cons rv .nil)
  · obtain ⟨z1, z2, z3, us', o', arr', ep', y1, y2, y3, y4, y5⟩ := z
    exact ⟨z1, z2, z3, us', o', arr', ep', y1, k _ y2, y3, y4, y5⟩
/-- {} of that kind -/
def newN : Ex := fun _ S => .ok (.m S.length) (S ++ [.ndc [] []])
theorem e_newN : PE X (.Dict [] [] pos) (tG G (relV G) E newN) := ⟨fun pins s σ H Q I ⟨own, res, S, ρ, w, en, q⟩ => by
  have hp : H s.heap.objs.size = none := I.hok.fresh (Nat.le_refl _)
  have hs : (s.heap.objs.size == sysModules) = false := beq_eq_false_iff_ne.mpr (Ne.symm (Nat.ne_of_lt I.big))
  have ho := Heap.get?_push_size s.heap (o := { cls := .type "dict", data := .dict #[] }) rfl
  have I2 := I.laid (a := s.heap.objs.size) (o := NdO G s.heap.objs.size []) (h' := s.heap.push { cls := .type "dict", data := .dict #[] }) (t' := s.toks) (fun _ _ q => Heap.get?_push_of_some _ q) (Nat.le_refl _)
    ⟨⟨Nat.zero_le _, hs, List.nodup_nil, [], _, #[], 0, .nil, ho, ⟨rfl, rfl, rfl⟩, rfl, rfl⟩, ⟨_, ho⟩, fun q1 q2 z k => by
      obtain ⟨z1, z2, z3, us', o', arr', ep', y1, y2, y3, y4, y5⟩ := z
      exact ⟨z1, z2, z3, us', o', arr', ep', y1, k _ y2, y3, y4, y5⟩⟩
  refine wpAny_Dict_empty ⟨.ref s.heap.objs.size, _, I2, rfl, ?_⟩
  have g : Grow own H (own ++ [s.heap.objs.size]) (upd H s.heap.objs.size (NdO G s.heap.objs.size [])) := Grow.cell hp
  refine q (own ++ [s.heap.objs.size]) _ _ g (w.push hp ⟨[], upd_same, Reps.nil, rfl, Reps.nil⟩) ⟨_, rfl, ?_⟩
  rw [← w.len, List.getElem?_append_right (Nat.le_refl _)]
  simp⟩
def isNC (S : Sto) : D → Option (List D × List D)
  | .m c => match S[c]? with
    | some (.ndc ks vs) => some (ks, vs)
    | _ => none
  | _ => none
def dpOk (d : D) : Bool := match nkD d with
  | some k => decide (k.depth ≤ 8)
  | none => false
def isTp : D → Bool
  | .tup _ => true
  | _ => false
def dInN (neg : Bool) (a b : D) (S : Sto) : R D := match isNC S b with
  | some (ks, _) => if isTp a = true ∧ dpOk a = true ∧ (ks.all fun d => isTp d && dpOk d) = true then .ok (.bl (neg ^^ ks.any fun d => decide (nkD d = nkD a))) S else .bad
  | none => .bad
def dStN (o i v : D) (S : Sto) : R Unit := match o with
  | .m c => match S[c]? with
    | some (.ndc ks vs) => if isTp i = true ∧ dpOk i = true ∧ (ks.all fun d => isTp d && dpOk d) = true ∧ (ks.any fun d => decide (nkD d = nkD i)) = false ∧ ks.length < 16777216 then .ok () (S.set c (.ndc (ks ++ [i]) (vs ++ [v]))) else .bad
    | _ => .bad
  | _ => .bad
theorem nks_get : ∀ {ks : List D} {es : List (NestedKey × Addr × V)}, nksD ks = some (es.map (·.1)) → ∀ {e : NestedKey × Addr × V} {i : Nat}, es[i]? = some e → ∃ d, ks[i]? = some d ∧ nkD d = some e.1
  | [], es, h, e, i, he => by
    have h : es.map (·.1) = [] := (Option.some.inj h).symm
    rw [List.map_eq_nil_iff.mp h] at he
    simp at he
  | d :: ds, es, h, e, i, he => by
    have h : (match nkD d, nksD ds with | some k, some ks => some (k :: ks) | _, _ => none) = some (es.map (·.1)) := h
    cases h1 : nkD d with
    | none => rw [h1] at h; cases h
    | some k =>
      cases h2 : nksD ds with
      | none => rw [h1, h2] at h; cases h
      | some kk =>
        rw [h1, h2] at h
        have h := Option.some.inj h
        cases es with
        | nil => cases h
        | cons e0 es =>
          injection h with h3 h4
          cases i with
          | zero =>
            have : e0 = e := by simpa using he
            subst this
            exact ⟨d, rfl, by rw [h1, h3]⟩
          | succ i =>
            obtain ⟨d', q1, q2⟩ := nks_get (ks := ds) (es := es) (by rw [h2, h4]) (i := i) (by simpa using he)
            exact ⟨d', by simpa using q1, q2⟩
theorem nks_any {k : NestedKey} : ∀ {ks : List D} {es : List (NestedKey × Addr × V)}, nksD ks = some (es.map (·.1)) → (ks.any fun d => decide (nkD d = some k)) = es.any fun e => decide (e.1 = k)
  | [], es, h => by
    have h : es.map (·.1) = [] := (Option.some.inj h).symm
    rw [List.map_eq_nil_iff.mp h]
    rfl
  | d :: ds, es, h => by
    have h : (match nkD d, nksD ds with | some k, some ks => some (k :: ks) | _, _ => none) = some (es.map (·.1)) := h
    cases h1 : nkD d with
    | none => rw [h1] at h; cases h
    | some k' =>
      cases h2 : nksD ds with
      | none => rw [h1, h2] at h; cases h
      | some kk =>
        rw [h1, h2] at h
        have h := Option.some.inj h
        cases es with
        | nil => cases h
        | cons e0 es =>
          injection h with h3 h4
          rw [List.any_cons, List.any_cons, nks_any (ks := ds) (es := es) (by rw [h2, h4]), h1, h3]
          simp
theorem nks_snoc {k : NestedKey} {d : D} (hd : nkD d = some k) : ∀ {ks : List D} {kk : List NestedKey}, nksD ks = some kk → nksD (ks ++ [d]) = some (kk ++ [k])
  | [], kk, h => by
    cases h
    show (match nkD d, nksD [] with | some k, some ks => some (k :: ks) | _, _ => none) = _
    rw [hd]
    rfl
  | x :: ks, kk, h => by
    have h : (match nkD x, nksD ks with | some k, some ks => some (k :: ks) | _, _ => none) = some kk := h
    cases h1 : nkD x with
    | none => rw [h1] at h; cases h
    | some k' =>
      cases h2 : nksD ks with
      | none => rw [h1, h2] at h; cases h
      | some k2 =>
        rw [h1, h2] at h
        cases h
        show (match nkD x, nksD (ks ++ [d]) with | some k, some ks => some (k :: ks) | _, _ => none) = _
        rw [h1, nks_snoc hd h2]
        rfl
theorem dpOk_at {d : D} (h : dpOk d = true) : ∃ k, nkD d = some k ∧ k.depth ≤ 8 := by
  unfold dpOk at h
  split at h
  · rename_i k hk
    exact ⟨k, hk, of_decide_eq_true h⟩
  · cases h
/-- what stands in such a cell -/
theorem nd_cell {cc : Nat} {v : V} {ks vs : List D} (w : Wd G own res S H) (r : Rep G H own res (.m cc) v) (h : S[cc]? = some (.ndc ks vs)) (ha : (ks.all fun d => isTp d && dpOk d) = true) :
    ∃ l es, v = .ref l ∧ own[cc]? = some l ∧ H l = some (NdO G l es) ∧ nksD ks = some (es.map (·.1)) ∧ ks.length = es.length ∧ Reps G H own res ks (es.map fun e => V.ref e.2.1) ∧ Reps G H own res vs (es.map (·.2.2)) ∧ ∀ e, e ∈ es → NK G H e.1 (.ref e.2.1) ∧ e.1.depth ≤ 8 := by
  obtain ⟨l, e, h1⟩ := r
  obtain ⟨es, q1, q2, q3, q4⟩ := w.cell cc _ l h h1
  refine ⟨l, es, e, h1, q1, q3, by simpa using q2.length, q2, q4, fun x hx => ?_⟩
  obtain ⟨i, hi, ex⟩ := List.mem_iff_getElem.mp hx
  have hx' : es[i]? = some x := by simp [hi, ex]
  obtain ⟨d, hd, hk⟩ := nks_get q3 hx'
  obtain ⟨u, hu, ru⟩ := q2.get hd
  rw [List.getElem?_map, hx'] at hu
  cases hu
  have := List.all_eq_true.mp ha d (List.mem_of_getElem? hd)
  rw [Bool.and_eq_true] at this
  obtain ⟨k, hk2, hdp⟩ := dpOk_at this.2
  rw [hk] at hk2
  cases hk2
  exact ⟨⟨own, res, d, ru, hk⟩, hdp⟩
theorem isTp_at {d : D} (h : isTp d = true) : ∃ xs, d = .tup xs := by
  cases d <;> first | exact ⟨_, rfl⟩ | cases h
theorem ok_inN {neg : Bool} {x y : V} {d e : D} {Q : VK} (w : Wd G own res S H) (r1 : Rep G H own res d x) (r2 : Rep G H own res e y) (q : Good G (relV G) own res H Q E (dInN neg d e S)) : rInN G neg x y H Q := by
  unfold dInN isNC at q
  split at q
  · rename_i ks vs hm
    split at hm
    · rename_i cc
      split at hm
      · rename_i hc
        cases hm
        split at q
        · rename_i ha
          obtain ⟨l, es, rfl, h1, h2, h3, _, _, _, h5⟩ := nd_cell w r2 hc ha.2.2
          obtain ⟨xs, rfl⟩ := isTp_at ha.1
          obtain ⟨k, hk, hdp⟩ := dpOk_at ha.2.1
          obtain ⟨ax, vx, rfl, _⟩ := r1.tupOf
          rw [hk, nks_any h3] at q
          exact ⟨ax, l, k, es, rfl, rfl, h2, ⟨⟨own, res, _, r1, hk⟩, hdp⟩, h5, q.here w rfl⟩
        · exact q.elim
      · cases hm
    · cases hm
  · exact q.elim
theorem ok_stN {o i d : D} {x y v : V} {Q : Hp → Prop} (w : Wd G own res S H) (ro : Rep G H own res o x) (ri : Rep G H own res i y) (rd : Rep G H own res d v)
    (q : Good G (fun _ _ _ _ _ => True) own res H (fun _ H => Q H) E (β := Unit) (dStN o i d S)) : rSetN G x y v H Q := by
  unfold dStN at q
  split at q
  · rename_i cc
    split at q
    · rename_i ks vs hc
      split at q
      · rename_i ha
        obtain ⟨l, es, rfl, h1, h2, h3, h4, h6, h7, h5⟩ := nd_cell w ro hc ha.2.2.1
        obtain ⟨xs, rfl⟩ := isTp_at ha.1
        obtain ⟨k, hk, hdp⟩ := dpOk_at ha.2.1
        obtain ⟨ax, vx, rfl, _⟩ := ri.tupOf
        have hno := ha.2.2.2.1
        rw [hk, nks_any h3] at hno
        have hl : l ∈ own := List.mem_of_getElem? h1
        have g : Grow own H own (upd H l (NdO G l (es ++ [(k, ax, v)]))) := Grow.write hl
        refine ⟨l, ax, k, es, rfl, rfl, h2, ⟨⟨own, res, _, ri, hk⟩, hdp⟩, h5, hno, by rw [← h4, sizeLine_eq]; exact ha.2.2.2.2, q own _ () g (w.write h1 (fun ps z => by unfold NdO at z; cases z) ?_) trivial⟩
        refine ⟨es ++ [(k, ax, v)], upd_same, ?_, ?_, ?_⟩
        · rw [List.map_append]
          exact (h6.append (Reps.one ri)).grow g
        · rw [List.map_append]
          exact nks_snoc hk h3
        · rw [List.map_append]
          exact (h7.append (Reps.one rd)).grow g
      · exact q.elim
    · exact q.elim
  · exact q.elim
def tgSN (fo fi : Ex) : Tg := fun d ρ S => (fo ρ S).bind fun o S1 => (fi ρ S1).bind fun i S2 => (dStN o i d S2).bind fun _ S3 => .ok ρ S3
theorem tg_subN {fo fi : Ex} : TOk G E (tgSN fo fi) (gSub (tG G (relV G) E fo) (tG G (relV G) E fi) (rSetN G)) := fun own res S H σ ρ d v Q w en r q => by
  refine ⟨own, res, S, ρ, w, en, (Good.bind (r1 := relV G) q).imp fun x H1 ⟨own1, S1, o, g1, w1, r1, q1⟩ => ?_⟩
  refine ⟨own1, res, S1, ρ, w1, en.grow g1, (Good.bind (r1 := relV G) q1).imp fun y H2 ⟨own2, S2, i, g2, w2, r2, q2⟩ => ?_⟩
  refine ok_stN w2 (r1.grow g2) r2 ((r.grow g1).grow g2) ((Good.bind (r1 := fun _ _ _ _ _ => True) (γ := Env) q2).imp fun _ H3 ⟨own3, S3, _, g3, w3, _, q3⟩ => ?_)
  exact q3.here w3 (((en.grow g1).grow g2).grow g3)
end
end Ev
namespace Ev
open L2 PySem PySem.Spec PyProof.Rows

/-! ## repr -/
def keyP : Key → PyData
  | .inl i => .int i
  | .inr x => .str x
def keyPD : D → PyData
  | .int i => .int i
  | .str x => .str x
  | _ => .none
mutual
inductive Rp (H : Hp) : V → PyData → Prop
  | non : Rp H .non .none
  | bl (b : Bool) : Rp H (.bl b) (.bool b)
  | int (i : Int) : Rp H (.int i) (.int i)
  | str (x : Str) : Rp H (.str x) (.str x)
  | lst {a : Addr} {xs : List V} {ds : List PyData} : H a = some (.lst xs) → RpA H xs ds → Rp H (.ref a) (.list ds)
  | tup {a : Addr} {xs : List V} {ds : List PyData} : H a = some (.tup xs) → RpA H xs ds → Rp H (.ref a) (.tuple ds)
  | dct {a : Addr} {kvs : List (Key × V)} {ds : List PyData} : H a = some (.dK kvs) → RpA H (kvs.map (·.2)) ds → Rp H (.ref a) (.dict ((kvs.map fun p => keyP p.1).zip ds))
inductive RpA (H : Hp) : List V → List PyData → Prop
  | nil : RpA H [] []
  | cons {v : V} {vs : List V} {d : PyData} {ds : List PyData} : Rp H v d → RpA H vs ds → RpA H (v :: vs) (d :: ds)
end
theorem RpA.len {H : Hp} : ∀ {vs : List V} {ds : List PyData}, RpA H vs ds → vs.length = ds.length
  | _, _, .nil => rfl
  | _, _, .cons _ t => by rw [List.length_cons, List.length_cons, t.len]
theorem reads_keys {h : Heap} {P : Program} {w : World} : ∀ {es : List DictEntry} {kvs : List (Key × Value)}, Pairs (mixKind P w) es kvs → ReadsAll h (es.map (·.key)) (kvs.map fun p => keyP p.1) []
  | _, _, .nil => .nil
  | _, _, .cons (e := e) (kv := kv) h1 _ t => by
    have r : Reads h e.key (keyP kv.1) [] := by
      rcases keyIs_shape (show keyIs kv.1 e.key = true from h1) with ⟨i, t, e1, e2⟩ | ⟨x, t, e1, e2⟩
      · rw [e1, e2]; exact .int i t
      · rw [e1, e2]; exact .str x t
    exact ReadsAll.cons (as := []) r (reads_keys t)
theorem base_ok_get (x : Str) (p1 : Pos) (env : PySem.Env) : attributeBase (.Name x p1) "get" env (eval (.Name x p1) env) = eval (.Name x p1) env := rfl
section
variable {X : Cx} {G : Gc} {E : XK} {a b c e : Expr} {fa fb fc : Ex} {pos p : Pos} {H H1 H' : Hp} {own own1 own' res res' : List Addr} {S S' : Sto} {Dn : Ends}
theorem kv_vals : ∀ {kvs : List (Key × V)} {vs : List (Key × Value)}, KV kvs vs → Vals (kvs.map (·.2)) (vs.map (·.2)) := by
  intro kvs vs hh
  unfold KV at hh
  induction hh with
  | nil => exact .nil
  | cons h1 _ ih => exact .cons h1.2 ih
theorem pairs_vals {P : Program} {w : World} : ∀ {es : List DictEntry} {vs : List (Key × Value)}, Pairs (mixKind P w) es vs → es.map (·.val) = vs.map (·.2) := by
  intro es vs hh
  induction hh with
  | nil => rfl
  | cons _ h2 _ ih => rw [List.map_cons, List.map_cons, h2, ih]
theorem Rp.reads {pins : List (Addr × Obj)} {σ : L2.St} {s : Shared} (I : Inv X pins σ H s) (hs : H sysModules = none) {v : V} {d : PyData} (h : Rp H v d) : ∀ {u : Value}, RelV v u → ∃ as, Reads s.heap u d as ∧ sysModules ∉ as := by
  refine Rp.rec (H := H) (motive_1 := fun v d _ => ∀ {u : Value}, RelV v u → ∃ as, Reads s.heap u d as ∧ sysModules ∉ as) (motive_2 := fun vs ds _ => ∀ {us : List Value}, Vals vs us → ∃ as, ReadsAll s.heap us ds as ∧ sysModules ∉ as)
    ?_ ?_ ?_ ?_ ?_ ?_ ?_ ?_ ?_ h
  · intro u r; cases r; exact ⟨_, .none, by simp⟩
  · intro b u r; cases r; exact ⟨_, .bool b, by simp⟩
  · intro i u r; obtain ⟨t, rfl⟩ := r; exact ⟨_, .int i t, by simp⟩
  · intro x u r; obtain ⟨t, rfl⟩ := r; exact ⟨_, .str x t, by simp⟩
  · intro a xs ds h1 h2 ih u r
    obtain rfl : u = Value.ref a := r
    obtain ⟨its, n, rv, ho, hz⟩ := I.lst h1
    obtain ⟨as, q1, q2⟩ := ih rv
    refine ⟨_, .list ho rfl rfl (by simpa using q1), fun z => ?_⟩
    rcases List.mem_cons.mp z with z | z
    · rw [← z, hs] at h1; cases h1
    · exact q2 z
  · intro a xs ds h1 h2 ih u r
    obtain rfl : u = Value.ref a := r
    obtain ⟨its, rv, pl, _⟩ := I.tuple (SqT.of h1)
    obtain ⟨o, e1, e2, n, e3⟩ := pl
    obtain ⟨as, q1, q2⟩ := ih rv
    exact ⟨_, .tuple e1 e2 e3 (by simpa using q1), q2⟩
  · intro a kvs ds h1 h2 ih u r
    obtain rfl : u = Value.ref a := r
    obtain ⟨hz, hsy, vs, rel, o, es, ep, ho, hex, hdt, _, hp, _⟩ := I.hok a _ h1
    have hl : (kvs.map (·.2)).length = ds.length := h2.len
    have ek : kvs.map (fun p => keyP p.1) = vs.map fun p => keyP p.1 := by
      have := congrArg (List.map keyP) rel.keys
      rw [List.map_map, List.map_map] at this
      exact this
    have rvv : Vals (kvs.map (·.2)) (es.toList.map (·.val)) := by rw [pairs_vals hp]; exact kv_vals rel
    obtain ⟨as, q1, q2⟩ := ih rvv
    have lz : (kvs.map fun p => keyP p.1).length = ds.length := by rw [List.length_map]; rw [List.length_map] at hl; exact hl
    refine ⟨_, .dict ho hex.1 hdt (as := []) (by rw [List.map_fst_zip (by omega), ek]; exact reads_keys hp) (by rw [List.map_snd_zip (by omega)]; exact q1), fun z => ?_⟩
    rcases List.mem_cons.mp z with z | z
    · rw [← z, hs] at h1; cases h1
    · exact q2 z
  · intro us r; cases r; exact ⟨_, .nil, by simp⟩
  · intro v vs d ds h1 h2 ih1 ih2 us r
    cases r with
    | cons r1 r2 =>
      obtain ⟨as, q1, q2⟩ := ih1 r1
      obtain ⟨bs, q3, q4⟩ := ih2 r2
      exact ⟨_, .cons q1 q3, fun z => (List.mem_append.mp z).elim q2 q4⟩
/-! ### a tree as shown data -/
mutual
def rdR (f : Nat → Option PyData) : D → Option PyData
  | .non => some .none
  | .bl b => some (.bool b)
  | .int i => some (.int i)
  | .str x => some (.str x)
  | .lst xs => (rdRs f xs).map .list
  | .tup xs => (rdRs f xs).map .tuple
  | .dct ks vs => (rdRs f vs).map fun ds => .dict ((ks.map keyPD).zip ds)
  | .m k => f k
  | .frz _ | .fn _ | .cl _ | .ty _ => none
def rdRs (f : Nat → Option PyData) : List D → Option (List PyData)
  | [] => some []
  | d :: ds => (rdR f d).bind fun x => (rdRs f ds).map fun xs => x :: xs
end
def rdM (S : Sto) : Nat → Nat → Option PyData
  | 0, _ => none
  | n + 1, k => match S[k]? with
    | some (.lst xs) => (rdRs (rdM S n) xs).map .list
    | some (.dct ks vs) => (rdRs (rdM S n) vs).map fun ds => .dict ((ks.map keyPD).zip ds)
    | _ => none
def rdP (S : Sto) (d : D) : Option PyData := rdR (rdM S 3) d
theorem keyPD_at (kvs : List (Key × V)) : (kvs.map fun p => keyD p.1).map keyPD = kvs.map fun p => keyP p.1 := by
  rw [List.map_map]
  refine List.map_congr_left fun p _ => ?_
  obtain ⟨k, v⟩ := p
  cases k <;> rfl
mutual
theorem Rep.rp {f : Nat → Option PyData} (hf : ∀ k p a, f k = some p → own[k]? = some a → Rp H (.ref a) p) : ∀ (d : D) (v : V) (p : PyData), Rep G H own res d v → rdR f d = some p → Rp H v p
  | .non, v, p, r, h => by cases r; cases h; exact .non
  | .bl b, v, p, r, h => by cases r; cases h; exact .bl b
  | .int i, v, p, r, h => by cases r; cases h; exact .int i
  | .str x, v, p, r, h => by cases r; cases h; exact .str x
  | .lst xs, v, p, r, h => by
    obtain ⟨a, vs, e, h1, _, _, h4⟩ := r
    subst e
    obtain ⟨ps, q1, q2⟩ := Option.map_eq_some_iff.mp (show (rdRs f xs).map PyData.list = some p from h)
    subst q2
    exact .lst h1 (Reps.rp hf xs vs ps h4 q1)
  | .tup xs, v, p, r, h => by
    obtain ⟨a, vs, e, h1, _, _, h4⟩ := r
    subst e
    obtain ⟨ps, q1, q2⟩ := Option.map_eq_some_iff.mp (show (rdRs f xs).map PyData.tuple = some p from h)
    subst q2
    exact .tup h1 (Reps.rp hf xs vs ps h4 q1)
  | .dct ks xs, v, p, r, h => by
    obtain ⟨a, kvs, e, h1, _, _, h5, h4⟩ := r
    subst e
    obtain ⟨ps, q1, q2⟩ := Option.map_eq_some_iff.mp (show (rdRs f xs).map (fun ds => PyData.dict ((ks.map keyPD).zip ds)) = some p from h)
    subst q2
    rw [h5, keyPD_at]
    exact .dct h1 (Reps.rp hf xs _ ps h4 q1)
  | .m k, v, p, r, h => by
    obtain ⟨a, e, h1⟩ := r
    subst e
    exact hf k p a h h1
  | .frz _, _, _, _, h => by cases h
  | .fn _, _, _, _, h => by cases h
  | .cl _, _, _, _, h => by cases h
  | .ty _, _, _, _, h => by cases h
theorem Reps.rp {f : Nat → Option PyData} (hf : ∀ k p a, f k = some p → own[k]? = some a → Rp H (.ref a) p) : ∀ (ds : List D) (vs : List V) (ps : List PyData), Reps G H own res ds vs → rdRs f ds = some ps → RpA H vs ps
  | [], vs, ps, r, h => by
    have r : vs = [] := r
    cases r; cases h; exact .nil
  | d :: ds, vs, ps, r, h => by
    obtain ⟨v, w, rfl, r1, r2⟩ := r
    obtain ⟨x, h1, h2⟩ := Option.bind_eq_some_iff.mp (show ((rdR f d).bind fun x => (rdRs f ds).map fun xs => x :: xs) = some ps from h)
    obtain ⟨xs, h3, h4⟩ := Option.map_eq_some_iff.mp h2
    subst h4
    exact .cons (Rep.rp hf d v x r1 h1) (Reps.rp hf ds w xs r2 h3)
end
theorem Wd.rdM (w : Wd G own res S H) : ∀ (n k : Nat) (p : PyData) (a : Addr), rdM S n k = some p → own[k]? = some a → Rp H (.ref a) p
  | 0, _, _, _, h, _ => by cases h
  | n + 1, k, p, a, h, e => by
    have h : (match S[k]? with | some (.lst xs) => (rdRs (Ev.rdM S n) xs).map .list | some (.dct ks vs) => (rdRs (Ev.rdM S n) vs).map (fun ds => .dict ((ks.map keyPD).zip ds)) | _ => none) = some p := h
    cases hk : S[k]? with
    | none => rw [hk] at h; cases h
    | some o =>
      rw [hk] at h
      cases o with
      | lst xs =>
        obtain ⟨ps, q1, q2⟩ := Option.map_eq_some_iff.mp h
        subst q2
        obtain ⟨vs, h1, h2⟩ := w.cell k _ a hk e
        exact .lst h1 (Reps.rp (fun k p a => Wd.rdM w n k p a) xs vs ps h2 q1)
      | dct ks xs =>
        obtain ⟨ps, q1, q2⟩ := Option.map_eq_some_iff.mp h
        subst q2
        obtain ⟨kvs, h1, h3, h2⟩ := w.cell k _ a hk e
        rw [h3, keyPD_at]
        exact .dct h1 (Reps.rp (fun k p a => Wd.rdM w n k p a) xs _ ps h2 q1)
      | ndc _ _ => cases h
def showB (p : PyData) : Bool := p.showable && decide (p.depth ≤ 60) && decide (p.shown.length ≤ 16777216)
def dRepr (as : List D) (S : Sto) : R D := match as with
  | [x] => match rdP S x with
    | some p => if showB p = true then .ok (.str p.shown) S else .bad
    | none => .bad
  | _ => .bad
theorem call_reprD (hg : X.A.guards = some []) (hu : X.A.units + 65 < cLine) (hs : ∃ o, X.K.lookup sysModules = some o) :
    CallR X (.builtin "repr") (fun xs H Q => ∃ v p, xs = [v] ∧ Rp H v p ∧ showB p = true ∧ Q (.str p.shown) H) := by
  intro pins s σ H xs us Q I r h
  obtain ⟨v, p, rfl, hr, hb, q⟩ := h
  obtain ⟨u, rfl, rv⟩ := vals1 r
  unfold showB at hb
  simp only [Bool.and_eq_true, decide_eq_true_eq] at hb
  obtain ⟨⟨b1, b2⟩, b3⟩ := hb
  have hz : p.shown.length ≤ sizeLine := line_eq b3
  have hsys : H sysModules = none := by
    obtain ⟨o, ho⟩ := hs
    exact (I.bs sysModules o (I.mod.kin _ _ ho)).2
  have fin : ∀ {t}, EP X pins σ Q (.str p.shown t) { s with toks := s.toks + 1 } := fun {t} => ⟨.str p.shown, H, I.tok _, ⟨_, rfl⟩, q⟩
  cases hr with
  | non => cases rv; exact PySem.P.repr_of_none fin
  | bl b => cases rv; exact PySem.P.repr_of_bool fin
  | int i =>
    obtain ⟨t, rfl⟩ := rv
    exact PySem.P.repr_of_int (of_decide_eq_true b1) fin
  | str x =>
    obtain ⟨t, rfl⟩ := rv
    exact PySem.P.repr_of_str fin hz
  | @lst a xs ds h1 h2 =>
    obtain rfl : u = Value.ref a := rv
    obtain ⟨as, q1, q2⟩ := Rp.reads I hsys (.lst h1 h2) rfl
    exact repr_of_reads' q1 b1 (fun _ => q2) hg (by omega) (fun _ _ e => e) (fun h' u tk hk => ⟨.str _, H, I.kept hk, ⟨_, rfl⟩, q⟩) hz
  | @tup a xs ds h1 h2 =>
    obtain rfl : u = Value.ref a := rv
    obtain ⟨as, q1, q2⟩ := Rp.reads I hsys (.tup h1 h2) rfl
    exact repr_of_reads' q1 b1 (fun _ => q2) hg (by omega) (fun _ _ e => e) (fun h' u tk hk => ⟨.str _, H, I.kept hk, ⟨_, rfl⟩, q⟩) hz
  | @dct a kvs ds h1 h2 =>
    obtain rfl : u = Value.ref a := rv
    obtain ⟨as, q1, q2⟩ := Rp.reads I hsys (.dct h1 h2) rfl
    exact repr_of_reads' q1 b1 (fun _ => q2) hg (by omega) (fun _ _ e => e) (fun h' u tk hk => ⟨.str _, H, I.kept hk, ⟨_, rfl⟩, q⟩) hz
theorem ok_repr {xs : List V} {ds : List D} {Q : VK} (w : Wd G own res S H) (r : Reps G H own res ds xs) (q : Good G (relV G) own res H Q E (dRepr ds S)) : ∃ v p, xs = [v] ∧ Rp H v p ∧ showB p = true ∧ Q (.str p.shown) H := by
  unfold dRepr at q
  split at q
  · obtain ⟨v, rfl, rv⟩ := r.one'
    split at q
    · rename_i p hp
      split at q
      · rename_i hb
        exact ⟨v, p, rfl, Rep.rp (fun k p a => w.rdM 3 k p a) _ v p rv hp, hb, q.here w rfl⟩
      · exact q.elim
    · exact q.elim
  · exact q.elim

/-! ## a written dict's get -/
def KTab (X : Cx) (G : Gc) (x : Str) (kvs : List (Str × D)) : Prop := ∃ a es n, X.mg x = some (.ref a) ∧ KDict X.K X.w a es n ∧ ∀ z, match kvs.lookup z with
  | some d => ∃ u v, PySem.W.nsIn X.K a z = some (some u) ∧ RelV v u ∧ ∀ H own res, Rep G H own res d v
  | none => PySem.W.nsIn X.K a z = some none
def dKG (kvs : List (Str × D)) : D → Sto → R D
  | .str z, S => .ok ((kvs.lookup z).getD .non) S
  | _, _ => .bad
theorem e_kget {x : Str} {kvs : List (Str × D)} {p1 apos cpos : Pos} (kt : KTab X G x kvs) (hg : Gl X x) (hdb : (x == ("__debug__" : Str)) = false) (he : PE X e (tG G (relV G) E fa)) (hs : starEach [e] X.env = [(false, eval e X.env)])
    (few : ((backTo cpos (starEach [e] X.env)).all (fun x => !x.1) && (backToKw cpos (keywordEach [] X.env)).all (fun x => x.1.isSome)
      && decide (([e] : List Expr).length + ([] : List Keyword).length + (if ([] : List Keyword).isEmpty then 0 else 1) < 30)) = true) (line : (apos.endLine == cpos.line) = true) :
    PE X (.Call (.Attribute (.Name x p1) "get" apos) [e] [] cpos) (tG G (relV G) E (un1 (dKG kvs) fa)) := by
  obtain ⟨a, es, n, hm, D, htab⟩ := kt
  refine ⟨fun pins s σ H Q I ⟨own, res, S, ρ, w, en, q⟩ => ?_⟩
  refine wpAny_Call_method (base_ok_get x p1 X.env) few line PySem.F.plainAttrs_dict PySem.F.slot_dict_get PySem.F.type_dict_get (ld_glob I hg hm ?_ hdb)
  have mo := PySem.W.mapOf_K (prog := X.prog) (w := X.w) I.kIn D.at_ D.lit
  refine ⟨mo.typeIs, mo.noDict, ?_⟩
  rw [hs]
  show wpAny _ _ (callWith cpos (.builtin "dict.get") [.ref a] [(false, eval e X.env)] []) _ _ _
  refine Calls.callWith_builtin rfl (Calls.evalArgs_plain (Calls.spliced_cons (thn (he.run pins s σ H _ I ⟨own, res, S, ρ, w, en, Good.bind (r1 := relV G) q⟩) fun iv s2 ⟨y, H2, I2, ry, own1, S1, d, g1, w1, r1, q1⟩ => Calls.spliced_nil ?_)))
  cases d with
  | str z =>
    cases r1
    obtain ⟨t, rfl⟩ := ry
    have hz := htab z
    have mo2 := PySem.W.mapOf_K (prog := X.prog) (w := X.w) I2.kIn D.at_ D.lit
    refine call_meetsIn F.slot_dict_get mo2.typeIs F.entry_dict_get (F.args_dict_get_2 _ _) (meets_dict_get (strKind X.prog X.w) a (PySem.strKind_is X.prog X.w z t) D.low) ⟨_, mo2, ?_⟩
    have q1 : Good G (relV G) own1 res H2 Q E (.ok ((kvs.lookup z).getD .non) S1) := q1
    cases hk : kvs.lookup z with
    | some d =>
      rw [hk] at hz q1
      obtain ⟨u, v, e1, e2, e3⟩ := hz
      rw [PySem.W.find_K D.at_ e1]
      exact ⟨v, H2, I2.tok _, e2, q1.here w1 (e3 _ _ _)⟩
    | none =>
      rw [hk] at hz q1
      rw [PySem.W.find_K D.at_ hz]
      exact ⟨.non, H2, I2.tok _, rfl, q1.here w1 rfl⟩
  | _ => exact q1.elim
/-! ## a display of constants -/
def kcE : Option Expr → Option Key
  | some (.Constant (.int i) _ _) => some (.inl i)
  | some (.Constant (.str x) _ _) => some (.inr x)
  | _ => none
def vcE : Expr → Option V
  | .Constant .none _ _ => some .non
  | .Constant (.bool b) _ _ => some (.bl b)
  | .Constant (.int i) _ _ => some (.int i)
  | .Constant (.str x) _ _ => some (.str x)
  | _ => none
def dispK : List (Option Expr) → List Expr → Option (List (Key × V))
  | [], [] => some []
  | k :: ks, v :: vs => (kcE k).bind fun k => (vcE v).bind fun v => (dispK ks vs).map fun r => (k, v) :: r
  | _, _ => none
def smp : V → Option D
  | .non => some .non
  | .bl b => some (.bl b)
  | .int i => some (.int i)
  | .str x => some (.str x)
  | _ => none
def smps : List V → Option (List D)
  | [] => some []
  | v :: vs => (smp v).bind fun d => (smps vs).map fun ds => d :: ds
theorem smps_rep : ∀ {vs : List V} {ds : List D}, smps vs = some ds → Reps G H own res ds vs
  | [], ds, h => by cases h; exact Reps.nil
  | v :: vs, ds, h => by
    obtain ⟨d, h1, h2⟩ := Option.bind_eq_some_iff.mp (show ((smp v).bind fun d => (smps vs).map fun ds => d :: ds) = some ds from h)
    obtain ⟨ds', h3, rfl⟩ := Option.map_eq_some_iff.mp h2
    refine Reps.cons ?_ (smps_rep h3)
    cases v <;> cases h1 <;> rfl
theorem disp_pps : ∀ {ks : List (Option Expr)} {vs : List Expr} {kvs : List (Key × V)}, dispK ks vs = some kvs → PPs X pos ks vs (kvs.map fun p => (tC (kV p.1), tC p.2)) ∧ ks.all (·.isSome) = true ∧ ks.length = vs.length ∧ kvs.length = ks.length
  | [], [], kvs, h => by cases h; exact ⟨pps_nil, rfl, rfl, rfl⟩
  | [], _ :: _, _, h => by cases h
  | _ :: _, [], _, h => by cases h
  | k :: ks, v :: vs, kvs, h => by
    obtain ⟨k', h1, h2⟩ := Option.bind_eq_some_iff.mp (show ((kcE k).bind fun k => (vcE v).bind fun v => (dispK ks vs).map fun r => (k, v) :: r) = some kvs from h)
    obtain ⟨v', h3, h4⟩ := Option.bind_eq_some_iff.mp h2
    obtain ⟨r, h5, rfl⟩ := Option.map_eq_some_iff.mp h4
    obtain ⟨a1, a2, a3, a4⟩ := disp_pps h5
    have hv : PE X v (tC v') := by
      unfold vcE at h3
      split at h3 <;> cases h3
      · exact pe_non
      · exact pe_bl
      · exact pe_int
      · exact pe_str
    unfold kcE at h1
    split at h1 <;> cases h1
    · exact ⟨pps_cons pe_int hv a1, by rw [List.all_cons, a2]; rfl, by simp [a3], by simp [a4]⟩
    · exact ⟨pps_cons pe_str hv a1, by rw [List.all_cons, a2]; rfl, by simp [a3], by simp [a4]⟩
theorem tPairs_c {σ : L2.St} {Q : List (V × V) → Hp → Prop} : ∀ (kvs : List (Key × V)) (H : Hp) , Q (kvs.map fun p => (kV p.1, p.2)) H → tPairs (kvs.map fun p => (tC (kV p.1), tC p.2)) σ H Q := by
  intro kvs
  induction kvs generalizing Q with
  | nil => intro H h; exact h
  | cons p kvs ih => intro H h; exact ih H h
def dDisp (ks : List (Option Expr)) (vs : List Expr) : Option D := if ks.isEmpty = true then none else (dispK ks vs).bind fun kvs => if kvs.length ≤ 15 then (smps ((mergeK [] kvs).map (·.2))).map fun ds => .dct ((mergeK [] kvs).map fun p => keyD p.1) ds else none
theorem e_disp {ks : List (Option Expr)} {vs : List Expr} {d : D} (h : dDisp ks vs = some d) : PE X (.Dict ks vs pos) (tG G (relV G) E (cst d)) := by
  unfold dDisp at h
  split at h
  · cases h
  · rename_i hk
    obtain ⟨kvs, h1, h2⟩ := Option.bind_eq_some_iff.mp h
    split at h2
    · rename_i hl
      obtain ⟨ds, h3, rfl⟩ := Option.map_eq_some_iff.mp h2
      obtain ⟨a1, a2, a3, a4⟩ := disp_pps (X := X) (pos := pos) h1
      refine pe_imp (pe_disp a1 a2 a3 (fun z => hk (by rw [z]; rfl)) (by rw [← a4]; exact hl)) fun σ H Q ⟨own, res, S, ρ, w, en, q⟩ p hp => ?_
      refine tPairs_c kvs _ ⟨upd_same, kvs, rfl, hl, ?_⟩
      rw [upd_upd]
      exact new_dct w rfl (smps_rep h3) q hp
    · cases h2
end
end Ev
namespace Ev
open L2 PySem PySem.Spec PyProof.Rows

/-! ## from the text to what is answered -/
structure DC where
  N : List Str
  gl : Str → Option D
  bi : Str → Bool
  fnc : Str → Option FC
  cells : List (Nat × Nat)
  gd : Bool
  k : Nat
  wh : Nat
  exc : Str → Option Nat
  xf : Nat → Nat
  lam : Bool
  hook : Scope → Expr → Option Ex
  gdc : Str → Option (List (Str × D))
  ndv : List Str
  nds : List (Nat × Nat)
def place (x : Str) : List Str → Option Nat
  | [] => none
  | y :: ys => if y = x then some 0 else (place x ys).map (· + 1)
theorem place_at {x : Str} : ∀ {N : List Str} {i : Nat}, place x N = some i → N[i]? = some x
  | [], _, h => by cases h
  | y :: ys, i, h => by
    unfold place at h
    by_cases e : y = x
    · rw [if_pos e] at h
      cases h
      rw [e]; rfl
    · rw [if_neg e] at h
      obtain ⟨j, h1, rfl⟩ := Option.map_eq_some_iff.mp h
      simpa using place_at h1
/-! ### looks at the text -/
def plE : Expr → Bool
  | .Starred _ _ => false
  | _ => true
def nbE : Expr → Bool
  | .Call .. => false
  | _ => true
def ncE : Expr → Bool
  | .ListComp .. | .SetComp .. | .DictComp .. => false
  | _ => true
def nsE : Expr → Bool
  | .Set .. => false
  | _ => true
def ivE : Expr → Bool
  | .UnaryOp .Not _ _ | .BoolOp .. | .IfExp .. | .Compare .. => false
  | _ => true
def ixE : Expr → Bool
  | .Slice .. | .Tuple .. => false
  | _ => true
theorem star_cons {e : Expr} (es : List Expr) (env : PySem.Env) (h : plE e = true) : starEach (e :: es) env = (false, eval e env) :: starEach es env := by
  cases e <;> first | rfl | cases h
theorem star_any {env : PySem.Env} (pos : Pos) : ∀ {es : List Expr}, es.all plE = true → (backTo pos (starEach es env)).any (·.1) = false
  | [], _ => rfl
  | e :: es, h => by
    rw [List.all_cons, Bool.and_eq_true] at h
    rw [star_cons es env h.1]
    show (false || (backTo pos (starEach es env)).any (·.1)) = false
    rw [star_any pos h.2]; rfl
theorem star_all {env : PySem.Env} (pos : Pos) : ∀ {es : List Expr}, es.all plE = true → (backTo pos (starEach es env)).all (fun x => !x.1) = true
  | [], _ => rfl
  | e :: es, h => by
    rw [List.all_cons, Bool.and_eq_true] at h
    rw [star_cons es env h.1]
    show (true && (backTo pos (starEach es env)).all (fun x => !x.1)) = true
    rw [star_all pos h.2]; rfl
theorem few_ok {env : PySem.Env} (pos : Pos) {es : List Expr} (h : es.all plE = true) (hl : es.length < 20) : ((backTo pos (starEach es env)).all (fun x => !x.1) && (backToKw pos (keywordEach [] env)).all (fun x => x.1.isSome)
      && decide (es.length + ([] : List Keyword).length + (if ([] : List Keyword).isEmpty then 0 else 1) < 30)) = true := by
  rw [star_all pos h]
  simp [keywordEach, backToKw]
  omega
theorem base_ok {o : Expr} (m : Str) (env : PySem.Env) (w : Sem Value) (h : nbE o = true) : attributeBase o m env w = w := by
  cases o <;> first | rfl | cases h
theorem swap_ok {e : Expr} (t : Option Expr) (l : Nat) (env : PySem.Env) (h : ncE e = true) : swapsWith e t l env = pure false := by
  cases e <;> first | rfl | cases h
theorem swapS_ok {tg e : Expr} (l : Nat) (env : PySem.Env) (h : ncE e = true) : swapsWithSole [tg] e l env = pure false := swap_ok (some tg) l env h
theorem fold_ok {e : Expr} (env : PySem.Env) (h : nsE e = true) : ∀ x, foldedSetIterable e env x = pure x := fun x => by
  cases e <;> first | rfl | cases h
theorem true_ok {e : Expr} (env : PySem.Env) (h : ivE e = true) : ∀ whole, isTrue e env whole = (do let v ← whole; standAt e.pos; holding [v] (truthy v)) := fun whole => by
  cases e with
  | UnaryOp op _ _ => cases op <;> first | rfl | cases h
  | _ => first | rfl | cases h
theorem ix_ok {e : Expr} (h : ixE e = true) : PlainIx e := fun o i => by
  cases e <;> first | rfl | cases h
def kwNames : List Keyword → Option (List Str)
  | [] => some []
  | ⟨some x, _, _⟩ :: r => (kwNames r).map fun l => x :: l
  | ⟨none, _, _⟩ :: _ => none
theorem kw_all {env : PySem.Env} (pos : Pos) : ∀ {kws : List Keyword} {ks : List Str}, kwNames kws = some ks → (backToKw pos (keywordEach kws env)).all (·.1.isSome) = true ∧ (backToKw pos (keywordEach kws env)).filterMap (·.1) = ks ∧ (backToKw pos (keywordEach kws env)).any (·.1.isNone) = false
  | [], ks, h => by cases h; exact ⟨rfl, rfl, rfl⟩
  | ⟨none, _, _⟩ :: _, _, h => by cases h
  | ⟨some x, v, p⟩ :: r, ks, h => by
    obtain ⟨l, h1, rfl⟩ := Option.map_eq_some_iff.mp (show (kwNames r).map (fun l => x :: l) = some ks from h)
    obtain ⟨a, b, c⟩ := kw_all (env := env) pos h1
    refine ⟨?_, ?_, ?_⟩
    · show (true && (backToKw pos (keywordEach r env)).all (·.1.isSome)) = true
      rw [a]; rfl
    · show x :: (backToKw pos (keywordEach r env)).filterMap (·.1) = _
      rw [b]
    · show (false || (backToKw pos (keywordEach r env)).any (·.1.isNone)) = false
      rw [c]; rfl
end Ev
namespace Ev
open L2 PySem PySem.Spec PyProof.Rows

/-- a value under a global name -/
def GlV (G : Gc) (mg : Str → Option Value) (x : Str) (d : D) : Prop := (∃ u v, mg x = some u ∧ RelV v u ∧ ∀ H own res, Rep G H own res d v) ∨ (mg x = none ∧ x ≠ "__name__" ∧ ∃ u v, bootBuiltins x = some u ∧ RelV v u ∧ ∀ H own res, Rep G H own res d v)
/-- the same module -/
structure Same (X Y : Cx) : Prop where
  prog : Y.prog = X.prog
  w : Y.w = X.w
  K : Y.K = X.K
  mg : Y.mg = X.mg
  base : Y.base = X.base
theorem Same.trans {X Y Z : Cx} (a : Same X Y) (b : Same Y Z) : Same X Z := ⟨b.prog.trans a.prog, b.w.trans a.w, b.K.trans a.K, b.mg.trans a.mg, b.base.trans a.base⟩
structure Rdg0 (X : Cx) (G : Gc) (C : DC) (sc : Scope) (fv : Str → Bool) (E : XK) : Prop where
  nn : X.N = C.N
  nd : C.N.Nodup
  sce : X.env.scope = sc
  kd : sc.kind = .function
  fve : X.fn = fv
  cm : X.calm = true
  rm : Room C.k X.A
  gd : C.gd = true → X.A.guards = some []
  po : PassesOwn (model X.prog X.w) X.A X.env X.xe
  ps : Passes (L2.CX X.prog X.w) X E
  pw : G.prog = X.prog ∧ G.w = X.w
  gl : ∀ x d, C.gl x = some d → GlV G X.mg x d
  bi : ∀ x, C.bi x = true → X.mg x = none
  gk : ∀ x kvs, C.gdc x = some kvs → KTab X G x kvs
  sy : C.gd = true → ∃ o, X.K.lookup sysModules = some o
  fn : ∀ x F, C.fnc x = some F → FnK X G C.k x F
  tk : Takes X (fun cls d _ H => E cls d H)
  xl : ∀ c, (G.xf c).length = C.xf c
  lt : C.lam = true → ∃ c P, X.env.code = .ref c ∧ LamX.TabB X.base X.mg c P ∧ (P, X.env.qual ++ "<lambda>") ∈ G.T ∧ ∀ p ∈ G.T, p.1 = P → p.2 = X.env.qual ++ "<lambda>"
/-- an own exception is made: its class, its fields by their places -/
def ExcK (X : Cx) (G : Gc) (k : Nat) (x : Str) (c : Nat) : Prop := ∀ (Y : Cx), Same X Y → Y.calm = true → Room k Y.A → Gl Y x → ∀ (a : Expr) (as : List Expr) (t : TA) (p pos : Pos), PA Y (a :: as) t → (a :: as).all plE = true →
  PMk Y (.Call (.Name x p) (a :: as) [] pos) (fun σ H Q => t σ H fun vs H1 => vs.length = (G.xf c).length ∧ ∀ d fs, H1 d = none → (∀ (i : Nat) (n : Str) (v : V), (G.xf c)[i]? = some n → vs[i]? = some v → fs.lookup n = some v) → Q (.ref (G.ca c)) (some d) (upd H1 d (.xd fs)))
structure Rdg (X : Cx) (G : Gc) (C : DC) (sc : Scope) (fv : Str → Bool) (E : XK) : Prop extends Rdg0 X G C sc fv E where
  ex : ∀ x c, C.exc x = some c → ExcK X G C.k x c
  hk : ∀ (Y : Cx) (sc' : Scope) (fv' : Str → Bool) (E' : XK), Same X Y → Rdg0 Y G C sc' fv' E' → ∀ e f, C.hook sc' e = some f → PE Y e (tG G (relV G) E' f)
theorem Rdg.hu {X : Cx} {G : Gc} {C : DC} {sc : Scope} {fv : Str → Bool} {E : XK} (R : Rdg X G C sc fv E) : X.A.units + 65 < cLine := by
  have := R.rm.un
  omega
/-- within a comprehension -/
theorem Rdg.blk {X : Cx} {G : Gc} {C : DC} {sc : Scope} {fv : Str → Bool} {E : XK} (R : Rdg X G C sc fv E) {scope : Scope} (hk : scope.kind = .function) (s : Shared) (H : Hp) (Cc : Addr) (cl : List (Str × Addr)) (fp : List Addr) :
    Rdg (X.blk s H scope (compEnvC scope cl Cc X.env) fp) G C (L2.relS scope sc) (fun x => scope.names.lookup x == some .cell) E0 where
  nn := R.nn
  nd := R.nd
  sce := by rw [← R.sce]; rfl
  kd := hk
  fve := rfl
  cm := R.cm
  rm := R.rm
  gd := R.gd
  po := PassesOwn.never
  ps := fun _ _ _ _ _ _ _ c => by
    obtain ⟨_, _, _, _, _, _, _, _, _, _, _, _, z⟩ := c
    exact z.elim
  pw := R.pw
  gl := R.gl
  bi := R.bi
  gk := R.gk
  sy := R.sy
  fn := R.fn
  tk := fun _ _ x => by
    obtain ⟨_, _, _, _, _, _, _, _, _, _, _, _, _, _, _, _, z⟩ := x
    exact z.elim
  lt := R.lt
  xl := R.xl
  ex := fun x c h Y s => R.ex x c h Y ⟨s.prog, s.w, s.K, s.mg, s.base⟩
  hk := fun Y sc' fv' E' s => R.hk Y sc' fv' E' ⟨s.prog, s.w, s.K, s.mg, s.base⟩

structure Dn where
  e : Scope → (Str → Bool) → Expr → Option Ex
  t : Scope → (Str → Bool) → Expr → Option ExB
  c : Scope → (Str → Bool) → Expr → Option ExB
  l : Scope → (Str → Bool) → List Expr → Option ExL
  w : Scope → (Str → Bool) → List Keyword → Option ExL
  o : Scope → (Str → Bool) → Option Expr → Option ExO
  i : Scope → (Str → Bool) → Expr → Expr → Option ExS
  b : Scope → (Str → Bool) → Expr → Option (Bn × List Nat)
  bs : Scope → (Str → Bool) → List Expr → Option (Bns × List Nat)
  g : Scope → (Str → Bool) → Expr → Option Tg
  gs : Scope → (Str → Bool) → List Expr → Option Tgs
  s : Scope → (Str → Bool) → Stmt → Option Sm
  ss : Scope → (Str → Bool) → List Stmt → Option Sm
structure Sd (C : DC) (r : Dn) : Prop where
  e : ∀ {X : Cx} {G : Gc} {sc : Scope} {fv : Str → Bool} {E : XK} {e : Expr} {f : Ex}, Rdg X G C sc fv E → r.e sc fv e = some f → PE X e (tG G (relV G) E f)
  t : ∀ {X : Cx} {G : Gc} {sc : Scope} {fv : Str → Bool} {E : XK} {e : Expr} {f : ExB}, Rdg X G C sc fv E → r.t sc fv e = some f → PT X e (tG G relB E f)
  c : ∀ {X : Cx} {G : Gc} {sc : Scope} {fv : Str → Bool} {E : XK} {e : Expr} {f : ExB}, Rdg X G C sc fv E → r.c sc fv e = some f → PW X e (tG G relB E f)
  l : ∀ {X : Cx} {G : Gc} {sc : Scope} {fv : Str → Bool} {E : XK} {e : List Expr} {f : ExL}, Rdg X G C sc fv E → r.l sc fv e = some f → PA X e (tG G (relL G) E f)
  w : ∀ {X : Cx} {G : Gc} {sc : Scope} {fv : Str → Bool} {E : XK} {e : List Keyword} {f : ExL}, Rdg X G C sc fv E → r.w sc fv e = some f → PK X e (tG G (relL G) E f)
  o : ∀ {X : Cx} {G : Gc} {sc : Scope} {fv : Str → Bool} {E : XK} {e : Option Expr} {f : ExO}, Rdg X G C sc fv E → r.o sc fv e = some f → PO X e (tG G relO E f)
  i : ∀ {X : Cx} {G : Gc} {sc : Scope} {fv : Str → Bool} {E : XK} {tg e : Expr} {f : ExS}, Rdg X G C sc fv E → r.i sc fv tg e = some f → PI X tg e (tG G (relS G) E f)
  b : ∀ {sc : Scope} {fv : Str → Bool} {e : Expr} {f : Bn} {sl : List Nat} (K : PySem.W.Frag), r.b sc fv e = some (f, sl) → ∃ g, (∀ {X : Cx} {G : Gc} {E : XK}, X.K = K → Rdg X G C sc fv E → PG X e g) ∧ ∀ G, GOk G f sl g
  bs : ∀ {sc : Scope} {fv : Str → Bool} {e : List Expr} {f : Bns} {sl : List Nat} (K : PySem.W.Frag), r.bs sc fv e = some (f, sl) → ∃ g, (∀ {X : Cx} {G : Gc} {E : XK}, X.K = K → Rdg X G C sc fv E → PGs X e g) ∧ ∀ G, GsOk G f sl g
  g : ∀ {X : Cx} {G : Gc} {sc : Scope} {fv : Str → Bool} {E : XK} {e : Expr} {f : Tg}, Rdg X G C sc fv E → r.g sc fv e = some f → ∃ g, PG X e g ∧ TOk G E f g
  gs : ∀ {X : Cx} {G : Gc} {sc : Scope} {fv : Str → Bool} {E : XK} {e : List Expr} {f : Tgs}, Rdg X G C sc fv E → r.gs sc fv e = some f → ∃ g, PGs X e g ∧ TsOk G E f g
  s : ∀ {X : Cx} {G : Gc} {sc : Scope} {fv : Str → Bool} {E : XK} {e : Stmt} {f : Sm}, Rdg X G C sc fv E → r.s sc fv e = some f → PS X e (tS G E f)
  ss : ∀ {X : Cx} {G : Gc} {sc : Scope} {fv : Str → Bool} {E : XK} {e : List Stmt} {f : Sm}, Rdg X G C sc fv E → r.ss sc fv e = some f → PSs X e (tS G E f)

/-! ### single things -/
def okN (x : Str) : Bool := !(x == ("__debug__" : Str)) && !(x == ("__classdict__" : Str))
def dName (C : DC) (sc : Scope) (x : Str) : Option Ex := if okN x = true then match sc.names.lookup x with
    | some .globalImplicit => (C.gl x).map cst
    | some .local => (place x C.N).map vrb
    | some .cell => (place x C.N).map vrb
    | some .free => (place x C.N).map vrb
    | _ => none
  else none
def dConst : Const → Option D
  | .none => some .non
  | .bool b => some (.bl b)
  | .int i => some (.int i)
  | .str x => some (.str x)
  | _ => none
def dOp : Operator → Option (D → D → Sto → R D)
  | .Add => some dAdd
  | .Sub => some dSub
  | .Mult => some dMul
  | .Mod => some dMod
  | .FloorDiv => some dDiv
  | .Pow => some dPow
  | _ => none
/-- the sum of two lists, as a new cell -/
def dAddC (a b : D) (S : Sto) : R D := match lstOf S a, lstOf S b with
  | some xs, some ys => if xs.length + ys.length ≤ 16777216 then .ok (.m S.length) (S ++ [.lst (xs ++ ys)]) else .bad
  | _, _ => .bad
def dOpC (C : DC) (p : Pos) (op : Operator) : Option (D → D → Sto → R D) := if C.cells.contains (p.line, p.col) = true then (match op with
    | .Add => some dAddC
    | _ => none) else dOp op
def mkOf (C : DC) (p : Pos) : List D → Sto → R D := if C.cells.contains (p.line, p.col) = true then mkC else mkL
/-- built-in functions and types, called -/
def dBi (gd : Bool) (mk : List D → Sto → R D) (x : Str) : Option Fn :=
  if x = "repr" then (if gd = true then some dRepr else none) else if x = "isinstance" then some dIsi else if x = "len" then some dLen else if x = "all" then some dAll else if x = "any" then some dAny else if x = "sum" then some dSum else if x = "abs" then some dAbs
  else if x = "int" then some dInt else if x = "list" then some (dList mk) else if x = "tuple" then some dTuple else if x = "dict" then some dDict else none
def dMth (x : Str) : Option (D → List D → Sto → R D) := if x = "append" then some dApp else if x = "extend" then some dExt else if x = "pop" then some dPop else if x = "index" then some dIdx else none
section
variable {X : Cx} {G : Gc} {C : DC} {sc : Scope} {fv : Str → Bool} {E : XK} {a b c e : Expr} {pos p : Pos} {es : List Expr} {fl : ExL} {fa fb fc : Ex}
theorem Rdg.gli (R : Rdg X G C sc fv E) {x : Str} (h : sc.names.lookup x = some .globalImplicit) : Gl X x := by
  show X.env.scope.names.lookup x = _
  rw [R.sce]
  exact h
theorem okN_at {x : Str} (h : okN x = true) : (x == ("__debug__" : Str)) = false ∧ (x == ("__classdict__" : Str)) = false := by
  unfold okN at h
  simpa using h
theorem k_name (R : Rdg X G C sc fv E) {x : Str} {f : Ex} (h : dName C sc x = some f) : PE X (.Name x pos) (tG G (relV G) E f) := by
  unfold dName at h
  split at h
  · rename_i hx
    obtain ⟨h1, h2⟩ := okN_at hx
    have vr : ∀ {k}, (sc.names.lookup x = some .local ∨ sc.names.lookup x = some .cell ∨ sc.names.lookup x = some .free) → (place x C.N).map vrb = some k → PE X (.Name x pos) (tG G (relV G) E k) := fun {k} hv h => by
      obtain ⟨i, hi, rfl⟩ := Option.map_eq_some_iff.mp h
      exact e_vrb (pe_var (by rw [R.nn]; exact place_at hi) (by rw [R.sce]; exact hv) h1 h2)
    split at h
    · rename_i hk
      obtain ⟨d, hd, rfl⟩ := Option.map_eq_some_iff.mp h
      rcases R.gl x d hd with ⟨u, v, e1, e2, e3⟩ | ⟨e0, en, u, v, e1, e2, e3⟩
      · exact e_cst (pe_glob (R.gli hk) e1 e2 h1) e3
      · exact e_cst (pe_bltn (R.gli hk) e0 e1 e2 en h1) e3
    · exact vr (.inl (by assumption)) h
    · exact vr (.inr (.inl (by assumption))) h
    · exact vr (.inr (.inr (by assumption))) h
    · cases h
  · cases h
theorem k_const {j : Nat} {cv : Const} {d : D} (h : dConst cv = some d) : PE X (.Constant cv j pos) (tG G (relV G) E (cst d)) := by
  cases cv with
  | none => cases h; exact e_cst pe_non fun _ _ _ => rfl
  | bool b => cases h; exact e_cst pe_bl fun _ _ _ => rfl
  | int i => cases h; exact e_cst pe_int fun _ _ _ => rfl
  | str x => cases h; exact e_cst pe_str fun _ _ _ => rfl
  | _ => cases h
theorem k_op {op : Operator} {g : D → D → Sto → R D} (h : dOp op = some g) (ha : PE X a (tG G (relV G) E fa)) (hb : PE X b (tG G (relV G) E fb)) : PE X (.BinOp a op b pos) (tG G (relV G) E (bi2 g fa fb)) := by
  cases op with
  | Add => cases h; exact e_add ha hb
  | Sub => cases h; exact e_sub ha hb
  | Mult => cases h; exact e_mul ha hb
  | Mod => cases h; exact e_mod ha hb
  | FloorDiv => cases h; exact e_div ha hb
  | Pow => cases h; exact e_pow ha hb
  | _ => cases h
theorem e_addC (ha : PE X a (tG G (relV G) E fa)) (hb : PE X b (tG G (relV G) E fb)) : PE X (.BinOp a .Add b pos) (tG G (relV G) E (bi2 dAddC fa fb)) := e_bin op_addA (fun own res S H x y d e Q w r1 r2 q => by
  unfold dAddC at q
  cases h1 : lstOf S d with
  | none => rw [h1] at q; exact q.elim
  | some xs =>
    cases h2 : lstOf S e with
    | none => rw [h1, h2] at q; exact q.elim
    | some ys =>
      rw [h1, h2] at q
      obtain ⟨l, vs, rfl, hl, rs⟩ := r1.lstOf w h1
      obtain ⟨l2, vs2, rfl, hl2, rs2⟩ := r2.lstOf w h2
      by_cases hz : xs.length + ys.length ≤ 16777216
      · dsimp only at q
        rw [if_pos hz] at q
        exact .inr (.inr ⟨l, l2, vs, vs2, rfl, rfl, hl, hl2, line_eq (by rw [← rs.length, ← rs2.length]; exact hz), fun p hp => new_cell w (rs.append rs2) q hp⟩)
      · dsimp only at q
        rw [if_neg hz] at q
        exact q.elim) ha hb
theorem k_opC {op : Operator} {g : D → D → Sto → R D} (h : dOpC C p op = some g) (ha : PE X a (tG G (relV G) E fa)) (hb : PE X b (tG G (relV G) E fb)) : PE X (.BinOp a op b pos) (tG G (relV G) E (bi2 g fa fb)) := by
  unfold dOpC at h
  split at h
  · cases op with
    | Add => cases h; exact e_addC ha hb
    | _ => cases h
  · exact k_op h ha hb
theorem mkOf_ok (C : DC) (p : Pos) : (mkOf C p = mkC ∨ mkOf C p = mkL) := by
  unfold mkOf
  split
  · exact .inl rfl
  · exact .inr rfl
theorem k_lst (h : PA X es (tG G (relL G) E fl)) : PE X (.List es pos) (tG G (relV G) E (ofL (mkOf C pos) fl)) := by
  rcases mkOf_ok C pos with z | z <;> rw [z]
  · exact e_lstC h
  · exact e_lst h
theorem k_bi (R : Rdg X G C sc fv E) {x : Str} {g : Fn} {p2 : Pos} (hx : sc.names.lookup x = some .globalImplicit) (hn : okN x = true) (hb : C.bi x = true) (h : dBi C.gd (mkOf C p2) x = some g) (ha : PA X (e :: es) (tG G (relL G) E fl)) (hp : (e :: es).all plE = true) :
    PE X (.Call (.Name x p) (e :: es) [] pos) (tG G (relV G) E (ofL g fl)) := by
  have hp' : plE e = true ∧ es.all plE = true := by rw [List.all_cons, Bool.and_eq_true] at hp; exact hp
  have s1 := star_cons es X.env hp'.1
  have s2 := star_any (env := X.env) pos hp'.2
  have hg := R.gli hx
  have hm := R.bi x hb
  have hd := (okN_at hn).1
  unfold dBi at h
  split at h
  · rename_i z; subst z
    split at h
    · rename_i hgd; cases h
      exact e_callB (call_reprD (R.gd hgd) R.hu (R.sy hgd)) (fun _ _ _ _ _ _ _ w r q => ok_repr w r q) hg hm boot_repr ha (by decide) hd s1 s2
    · cases h
  split at h
  · rename_i z; subst z; cases h
    exact e_callB (call_isi.or call_isiT) (fun _ _ _ _ _ _ _ w r q => ok_isi w r q) hg hm boot_isinstance ha (by decide) hd s1 s2
  split at h
  · rename_i z; subst z; cases h
    exact e_callB (call_len.or call_lenD) (fun _ _ _ _ _ _ _ w r q => ok_len w r q) hg hm boot_len ha (by decide) hd s1 s2
  split at h
  · rename_i z; subst z; cases h
    exact e_callB (cr_all R.cm) (fun _ _ _ _ _ _ _ w r q => ok_all w r q) hg hm PyProof.Rows.boot_all ha (by decide) hd s1 s2
  split at h
  · rename_i z; subst z; cases h
    exact e_callB (cr_any R.cm) (fun _ _ _ _ _ _ _ w r q => ok_any w r q) hg hm PyProof.Rows.boot_any ha (by decide) hd s1 s2
  split at h
  · rename_i z; subst z; cases h
    exact e_callB (cr_sum R.cm) (fun _ _ _ _ _ _ _ w r q => ok_sum w r q) hg hm PyProof.Rows.boot_sum ha (by decide) hd s1 s2
  split at h
  · rename_i z; subst z; cases h
    exact e_callB call_abs (fun _ _ _ _ _ _ _ w r q => ok_abs w r q) hg hm PyProof.Rows.boot_abs ha (by decide) hd s1 s2
  split at h
  · rename_i z; subst z; cases h
    exact e_callT call_int1 (fun _ _ _ _ _ _ _ w r q => ok_int w r q) hg hm boot_int ha (by decide) hd s1 s2
  split at h
  · rename_i z; subst z; cases h
    rcases mkOf_ok C p2 with z | z <;> rw [z]
    · exact e_callT (call_listA R.cm) (fun _ _ _ _ _ _ _ w r q => ok_list new_C w r q) hg hm boot_list ha (by decide) hd s1 s2
    · exact e_callT (call_listA R.cm) (fun _ _ _ _ _ _ _ w r q => ok_list new_L w r q) hg hm boot_list ha (by decide) hd s1 s2
  split at h
  · rename_i z; subst z; cases h
    exact e_callT call_tuple_of (fun _ _ _ _ _ _ _ w r q => ok_tuple w r q) hg hm boot_tuple ha (by decide) hd s1 s2
  split at h
  · rename_i z; subst z; cases h
    exact e_callT (call_dictP R.cm) (fun _ _ _ _ _ _ _ w r q => ok_dict w r q) hg hm boot_dict ha (by decide) hd s1 s2
  · cases h
theorem k_mth {x : Str} {apos : Pos} {g : D → List D → Sto → R D} (R : Rdg X G C sc fv E) (h : dMth x = some g) (ho : PE X a (tG G (relV G) E fa)) (ha : PA X (e :: es) (tG G (relL G) E fl)) (hp : (e :: es).all plE = true) (hn : nbE a = true) (hl : (e :: es).length < 20) (hline : (apos.endLine == pos.line) = true) :
    PE X (.Call (.Attribute a x apos) (e :: es) [] pos) (tG G (relV G) E (mthL g fa fl)) := by
  have hp' : plE e = true ∧ es.all plE = true := by rw [List.all_cons, Bool.and_eq_true] at hp; exact hp
  have s1 := star_cons es X.env hp'.1
  have s2 := star_any (env := X.env) pos hp'.2
  have s3 := few_ok (env := X.env) pos hp hl
  unfold dMth at h
  split at h
  · rename_i z; subst z; cases h
    exact e_mthL F.slot_list_append F.type_list_append mt_append (fun _ _ _ _ _ _ _ _ _ w ro _ r q => ok_app w ro r q) ho ha (base_ok _ _ _ hn) s3 hline s1 s2
  split at h
  · rename_i z; subst z; cases h
    exact e_mthL F.slot_list_extend F.type_list_extend mt_extend (fun _ _ _ _ _ _ _ _ _ w ro _ r q => ok_ext w ro r q) ho ha (base_ok _ _ _ hn) s3 hline s1 s2
  split at h
  · rename_i z; subst z; cases h
    exact e_mthL F.slot_list_pop F.type_list_pop mt_popAt (fun _ _ _ _ _ _ _ _ _ w ro _ r q => ok_pop w ro r q) ho ha (base_ok _ _ _ hn) s3 hline s1 s2
  split at h
  · rename_i z; subst z; cases h
    exact e_mthL F.slot_list_index F.type_list_index (mt_indexD R.hu) (fun _ _ _ _ _ _ _ _ _ w ro hl r q => ok_idx hl w ro r q) ho ha (base_ok _ _ _ hn) s3 hline s1 s2
  · cases h
end
end Ev
namespace Ev
open L2 PySem PySem.Spec PyProof.Rows

/-! ## one step -/
def fvOf (scope : Scope) : Str → Bool := fun x => scope.names.lookup x == some .cell
def ownOf (C : DC) (scope : Scope) : List (Str × Nat) := scope.names.filterMap fun y => match y.2 with
  | .local => (place y.1 C.N).map fun i => (y.1, i)
  | .cell => (place y.1 C.N).map fun i => (y.1, i)
  | _ => none
def dLc (C : DC) (r : Dn) (sc : Scope) (fv : Str → Bool) (elt tg it : Expr) (ifs : List Expr) (scope : Scope) (p : Pos) : Option Ex :=
  if blkC C.N sc scope (ownOf C scope) = true ∧ nsE it = true then
    (r.i sc fv tg it).bind fun fs => (r.b (L2.relS scope sc) (fvOf scope) tg).bind fun (bl : Bn × List Nat) => (match ifs with | [] => some yes | [c] => r.t (L2.relS scope sc) (fvOf scope) c | _ => none : Option ExB).bind fun ft =>
      (r.e (L2.relS scope sc) (fvOf scope) elt).bind fun fe => if (bl.2.all fun i => ((ownOf C scope).map (·.2)).contains i) = true then some (lcN (mkOf C p) ((ownOf C scope).map (·.2)) fs bl.1 ft fe) else none
  else none
def dCall (C : DC) (r : Dn) (sc : Scope) (fv : Str → Bool) (x : Str) (args : List Expr) (kws : List Keyword) (pos : Pos) : Option Ex :=
  if okN x = true ∧ sc.names.lookup x = some .globalImplicit ∧ args.all plE = true then match C.fnc x with
    | some F => if (!F.gd || C.gd) = true then match kws with
        | [] => match args with
          | [] => some (clP F.ps.length F.call arN)
          | a :: as => (r.l sc fv (a :: as)).map (clP F.ps.length F.call)
        | kw :: kws => (kwNames (kw :: kws)).bind fun ks => (F.kw args.length ks).bind fun prm => (r.w sc fv (kw :: kws)).bind fun fk => match args with
          | [] => some (clK F.ps.length 0 ks.length prm F.call arN fk)
          | a :: as => (r.l sc fv (a :: as)).map fun fl => clK F.ps.length (a :: as).length ks.length prm F.call fl fk
      else none
    | none => if C.bi x = true then match kws with
        | [] => match args with
          | [.Call (.Attribute o m apos) [] [] cpos] => if x = "list" ∧ m = "items" ∧ nbE o = true ∧ (apos.endLine == cpos.line) = true then (r.e sc fv o).map (un1 dItems) else none
          | a :: as => (dBi C.gd (mkOf C pos) x).bind fun g => (r.l sc fv (a :: as)).map (ofL g)
          | [] => none
        | _ => none
      else none
  else none
def gdOf (C : DC) (sc : Scope) : Expr → Option (List (Str × D))
  | .Name x _ => if okN x = true ∧ sc.names.lookup x = some .globalImplicit then C.gdc x else none
  | _ => none
def dMeth (C : DC) (r : Dn) (sc : Scope) (fv : Str → Bool) (o : Expr) (m : Str) (apos : Pos) (args : List Expr) (pos : Pos) : Option Ex := match args with
  | [] => none
  | a :: as => if (a :: as).all plE = true ∧ nbE o = true ∧ (a :: as).length < 20 ∧ (apos.endLine == pos.line) = true then match gdOf C sc o with
      | some kvs => if as = [] ∧ m = "get" then (r.e sc fv a).map (un1 (dKG kvs)) else none
      | none => (dMth m).bind fun g => (r.e sc fv o).bind fun fo => (r.l sc fv (a :: as)).map fun fl => mthL g fo fl
    else none
def inNd (C : DC) : Expr → Bool
  | .Name x _ => C.ndv.contains x
  | _ => false
def dCmpE (C : DC) (r : Dn) (sc : Scope) (fv : Str → Bool) (a : Expr) (ops : List CmpOp) (cs : List Expr) : Option Ex := match ops, cs with
  | [op], [b] => if inNd C b = true then match op with
      | .In => if behindInMarks .In b = false then (r.e sc fv a).bind fun fa => (r.e sc fv b).map fun fb => bi2 (dInN false) fa fb else none
      | .NotIn => if behindInMarks .NotIn b = false then (r.e sc fv a).bind fun fa => (r.e sc fv b).map fun fb => bi2 (dInN true) fa fb else none
      | _ => none
    else if behindInMarks op b = false then (r.e sc fv a).bind fun fa => (r.e sc fv b).map fun fb => bi2 (dCo op) fa fb else none
  | [op, op'], [b, c] => if lastMarks [op, op'] [b, c] = false then (r.e sc fv a).bind fun fa => (r.e sc fv b).bind fun fb => (r.e sc fv c).map fun fc => chn op op' fa fb fc else none
  | _, _ => none
def dBoolE (r : Dn) (sc : Scope) (fv : Str → Bool) (op : BoolOp) (vs : List Expr) (pos : Pos) : Option Ex := match vs with
  | [a] => r.e sc fv a
  | a :: b :: rest => (r.e sc fv a).bind fun fa => (r.e sc fv (.BoolOp op (b :: rest) pos)).map fun fb => match op with
    | .And => andV fa fb
    | .Or => orV fa fb
  | [] => none
def stE0 (C : DC) (r : Dn) (sc : Scope) (fv : Str → Bool) : Expr → Option Ex
  | .Constant cv _ _ => (dConst cv).map cst
  | .Name x _ => dName C sc x
  | .BinOp a op b p => (r.e sc fv a).bind fun fa => (r.e sc fv b).bind fun fb => (dOpC C p op).map fun g => bi2 g fa fb
  | .UnaryOp op a _ => match op with
    | .USub => (r.e sc fv a).map (un1 dNeg)
    | .Not => (r.e sc fv a).map (un1 notV)
    | _ => none
  | .BoolOp op vs pos => dBoolE r sc fv op vs pos
  | .IfExp c a b _ => (r.t sc fv c).bind fun fc => (r.e sc fv a).bind fun fa => (r.e sc fv b).map fun fb => ifE fc fa fb
  | .Compare a ops cs _ => dCmpE C r sc fv a ops cs
  | .Tuple es _ _ => (r.l sc fv es).map (ofL mkT)
  | .List es p => (r.l sc fv es).map (ofL (mkOf C p))
  | .Dict ks vs p => match ks, vs with
    | [], [] => if C.nds.contains (p.line, p.col) = true then some newN else if C.cells.contains (p.line, p.col) = true then some newDC else some newD
    | ks, vs => (dDisp ks vs).map cst
  | .Subscript a i _ => match i with
    | .Slice lo hi none _ => (r.e sc fv a).bind fun fa => (r.o sc fv lo).bind fun fl => (r.o sc fv hi).map fun fh => slE fa fl fh
    | i => if ixE i = true then (r.e sc fv a).bind fun fa => (r.e sc fv i).map fun fi => bi2 dIx fa fi else none
  | .ListComp elt gs scope p => match gs with
    | [⟨tg, it, ifs, 0⟩] => dLc C r sc fv elt tg it ifs scope p
    | _ => none
  | .Call f args kws pos => match f with
    | .Name x _ => dCall C r sc fv x args kws pos
    | .Attribute o m apos => match kws with
      | [] => dMeth C r sc fv o m apos args pos
      | _ => none
    | _ => none
  | _ => none
section
variable {X : Cx} {G : Gc} {C : DC} {r : Dn} {sc : Scope} {fv : Str → Bool} {E : XK} {a b c e : Expr} {pos p : Pos} {es : List Expr} {fl : ExL} {fa fb fc f : Ex}
theorem lc_ok (h : Sd C r) (R : Rdg X G C sc fv E) {elt tg it : Expr} {ifs : List Expr} {scope : Scope} (hd : dLc C r sc fv elt tg it ifs scope pos = some f) :
    ∃ (fs : ExS) (g : TG) (ft : ExB) (fe : Ex) (own : List (Str × Nat)), PI X tg it (tG G (relS G) E fs) ∧ BlkOk X.N X.env.scope scope own ∧ (∀ (s : Shared) (H : Hp) (Cc : Addr) (cl : List (Str × Addr)) (fp : List Addr), PG (X.blk s H scope (compEnvC scope cl Cc X.env) fp) tg g) ∧
      (∀ (s : Shared) (H : Hp) (Cc : Addr) (cl : List (Str × Addr)) (fp : List Addr), PTs (X.blk s H scope (compEnvC scope cl Cc X.env) fp) ifs (tG G relB E0 ft)) ∧
      (∀ (s : Shared) (H : Hp) (Cc : Addr) (cl : List (Str × Addr)) (fp : List Addr), PE (X.blk s H scope (compEnvC scope cl Cc X.env) fp) elt (tG G (relV G) E0 fe)) ∧ (∀ x, foldedSetIterable it X.env x = pure x) ∧
      ∀ σ H Q, tG G (relV G) E f σ H Q → tLc (tG G (relS G) E fs) g (tG G relB E0 ft) (tG G (relV G) E0 fe) (own.map (·.2)) σ H Q := by
  unfold dLc at hd
  split at hd
  · rename_i hc
    obtain ⟨hb, hn⟩ := hc
    obtain ⟨fs, h1, hd⟩ := Option.bind_eq_some_iff.mp hd
    obtain ⟨bl, h2, hd⟩ := Option.bind_eq_some_iff.mp hd
    obtain ⟨ft, h3, hd⟩ := Option.bind_eq_some_iff.mp hd
    obtain ⟨fe, h4, hd⟩ := Option.bind_eq_some_iff.mp hd
    split at hd
    · rename_i hs
      cases hd
      have ok : BlkOk X.N X.env.scope scope (ownOf C scope) := by rw [R.nn, R.sce]; exact blkOk_by hb
      obtain ⟨g, g1, g2⟩ := h.b (f := bl.1) (sl := bl.2) X.K h2
      have Rb := fun s H Cc cl fp => R.blk ok.kind s H Cc cl fp
      refine ⟨fs, g, ft, fe, ownOf C scope, h.i R h1, ok, fun s H Cc cl fp => g1 rfl (Rb s H Cc cl fp), fun s H Cc cl fp => ?_, fun s H Cc cl fp => h.e (Rb s H Cc cl fp) h4, fold_ok _ hn, fun σ H Q => ?_⟩
      · split at h3
        · cases h3
          exact ⟨fun pins s' σ H' Q I ⟨own, res, S, ρ, w, en, q⟩ => pts_nil.run pins s' σ H' Q I (q own H' true (Grow.refl _ _) w rfl)⟩
        · exact pts_one (h.t (Rb s H Cc cl fp) h3)
        · cases h3
      · have hsl : ∀ i, i ∈ bl.2 → i ∈ (ownOf C scope).map (·.2) := fun i hi => by simpa using List.all_eq_true.mp hs i hi
        rcases mkOf_ok C pos with z | z <;> rw [z]
        · exact t_lc mk_C (g2 G) hsl
        · exact t_lc mk_L (g2 G) hsl
    · cases hd
  · cases hd
theorem k_lc (h : Sd C r) (R : Rdg X G C sc fv E) {elt tg it : Expr} {ifs : List Expr} {scope : Scope} (hd : dLc C r sc fv elt tg it ifs scope pos = some f) : PE X (.ListComp elt [⟨tg, it, ifs, 0⟩] scope pos) (tG G (relV G) E f) := by
  obtain ⟨fs, g, ft, fe, own, a1, a2, a3, a4, a5, a6, a7⟩ := lc_ok h R hd
  exact pe_imp (pe_lc R.cm (by rw [R.nn]; exact R.nd) a1 a2 a3 a4 a5 a6) a7
theorem k_call (h : Sd C r) (R : Rdg X G C sc fv E) {x : Str} {args : List Expr} {kws : List Keyword} (hd : dCall C r sc fv x args kws pos = some f) : PE X (.Call (.Name x p) args kws pos) (tG G (relV G) E f) := by
  unfold dCall at hd
  split at hd
  · rename_i hc
    obtain ⟨hx, hg, hp⟩ := hc
    have gl := R.gli hg
    have hdb := (okN_at hx).1
    split at hd
    · rename_i F hF
      split at hd
      · rename_i hgd
        have gd : F.gd = true → X.A.guards = some [] := fun z => R.gd (by rw [z] at hgd; simpa using hgd)
        have fk := R.fn x F hF
        split at hd
        · split at hd
          · cases hd
            exact e_call0 fk R.rm gd gl R.ps hdb
          · rename_i a as
            obtain ⟨fl, h1, rfl⟩ := Option.map_eq_some_iff.mp hd
            have hp' : plE a = true ∧ as.all plE = true := by rw [List.all_cons, Bool.and_eq_true] at hp; exact hp
            exact e_call fk R.rm gd gl R.ps (h.l R h1) hdb (star_cons as X.env hp'.1) (star_any pos hp'.2)
        · rename_i kw kws
          obtain ⟨ks, h1, hd⟩ := Option.bind_eq_some_iff.mp hd
          obtain ⟨prm, h2, hd⟩ := Option.bind_eq_some_iff.mp hd
          obtain ⟨fk', h3, hd⟩ := Option.bind_eq_some_iff.mp hd
          obtain ⟨q1, q2, q3⟩ := kw_all (env := X.env) pos h1
          split at hd
          · cases hd
            exact e_callK0 fk h2 R.rm gd gl R.ps (h.w R h3) q1 q2 hdb (by rw [q3]; rfl)
          · obtain ⟨fl, h4, rfl⟩ := Option.map_eq_some_iff.mp hd
            have hp' := hp
            rw [List.all_cons, Bool.and_eq_true] at hp'
            exact e_callK fk h2 R.rm gd gl R.ps (h.l R h4) (h.w R h3) q1 q2 hdb (star_cons _ X.env hp'.1) (by rw [q3, star_any pos hp]; rfl)
      · cases hd
    · split at hd
      · rename_i hbi
        split at hd
        · split at hd
          · rename_i o m apos cpos
            split at hd
            · rename_i hl
              obtain ⟨rfl, rfl, hn, hli⟩ := hl
              obtain ⟨fo, h1, rfl⟩ := Option.map_eq_some_iff.mp hd
              exact e_items R.cm (h.e R h1) gl (R.bi _ hbi) (base_ok _ _ _ hn) hli
            · cases hd
          · obtain ⟨g, h1, hd⟩ := Option.bind_eq_some_iff.mp hd
            obtain ⟨fl, h2, rfl⟩ := Option.map_eq_some_iff.mp hd
            exact k_bi R hg hx hbi h1 (h.l R h2) hp
          · cases hd
        · cases hd
      · cases hd
  · cases hd
theorem gdOf_at {o : Expr} {kvs : List (Str × D)} (h : gdOf C sc o = some kvs) : ∃ x p, o = .Name x p ∧ okN x = true ∧ sc.names.lookup x = some .globalImplicit ∧ C.gdc x = some kvs := by
  unfold gdOf at h
  split at h
  · rename_i x p
    split at h
    · rename_i hc
      exact ⟨x, p, rfl, hc.1, hc.2, h⟩
    · cases h
  · cases h
theorem k_meth (h : Sd C r) (R : Rdg X G C sc fv E) {o : Expr} {m : Str} {apos : Pos} {args : List Expr} (hd : dMeth C r sc fv o m apos args pos = some f) : PE X (.Call (.Attribute o m apos) args [] pos) (tG G (relV G) E f) := by
  unfold dMeth at hd
  split at hd
  · cases hd
  · split at hd
    · rename_i hc
      split at hd
      · rename_i kvs hk
        split at hd
        · rename_i hm
          obtain ⟨rfl, rfl⟩ := hm
          obtain ⟨x, p, rfl, hx, hg, hk2⟩ := gdOf_at hk
          obtain ⟨fa, h1, rfl⟩ := Option.map_eq_some_iff.mp hd
          have hp := hc.1
          rw [List.all_cons, Bool.and_eq_true] at hp
          exact e_kget (R.gk x kvs hk2) (R.gli hg) (okN_at hx).1 (h.e R h1) (star_cons [] X.env hp.1) (few_ok (env := X.env) pos hc.1 hc.2.2.1) hc.2.2.2
        · cases hd
      · obtain ⟨g, h1, hd⟩ := Option.bind_eq_some_iff.mp hd
        obtain ⟨fo, h2, hd⟩ := Option.bind_eq_some_iff.mp hd
        obtain ⟨fl, h3, rfl⟩ := Option.map_eq_some_iff.mp hd
        exact k_mth R h1 (h.e R h2) (h.l R h3) hc.1 hc.2.1 hc.2.2.1 hc.2.2.2
    · cases hd
theorem t_inN {neg : Bool} {σ : L2.St} {H : Hp} {Q : VK} : tG G (relV G) E (bi2 (dInN neg) fa fb) σ H Q → tOp (rInN G neg) (tG G (relV G) E fa) (tG G (relV G) E fb) σ H Q := t_bi fun _ _ _ _ _ _ _ _ _ w r1 r2 q => ok_inN w r1 r2 q
theorem k_cmp (h : Sd C r) (R : Rdg X G C sc fv E) {ops : List CmpOp} {cs : List Expr} (hd : dCmpE C r sc fv a ops cs = some f) : PE X (.Compare a ops cs pos) (tG G (relV G) E f) ∧ PT X (.Compare a ops cs pos) (tG G relB E (unB asB f)) := by
  unfold dCmpE at hd
  split at hd
  · split at hd
    · split at hd
      · split at hd
        · rename_i hm
          obtain ⟨fa, h1, hd⟩ := Option.bind_eq_some_iff.mp hd
          obtain ⟨fb, h2, rfl⟩ := Option.map_eq_some_iff.mp hd
          exact ⟨pe_imp (pe_cmpR (op_inN R.hu R.pw) (h.e R h1) (h.e R h2) hm) fun _ _ _ => t_inN, pt_imp (pt_cmpR (op_inN R.hu R.pw) (h.e R h1) (h.e R h2) hm) fun _ _ _ q => t_inN (t_asB q)⟩
        · cases hd
      · split at hd
        · rename_i hm
          obtain ⟨fa, h1, hd⟩ := Option.bind_eq_some_iff.mp hd
          obtain ⟨fb, h2, rfl⟩ := Option.map_eq_some_iff.mp hd
          exact ⟨pe_imp (pe_cmpR (op_notInN R.hu R.pw) (h.e R h1) (h.e R h2) hm) fun _ _ _ => t_inN, pt_imp (pt_cmpR (op_notInN R.hu R.pw) (h.e R h1) (h.e R h2) hm) fun _ _ _ q => t_inN (t_asB q)⟩
        · cases hd
      · cases hd
    split at hd
    · rename_i hm
      obtain ⟨fa, h1, hd⟩ := Option.bind_eq_some_iff.mp hd
      obtain ⟨fb, h2, rfl⟩ := Option.map_eq_some_iff.mp hd
      exact ⟨e_co _ R.hu hm (h.e R h1) (h.e R h2), b_co _ R.hu hm (h.e R h1) (h.e R h2)⟩
    · cases hd
  · split at hd
    · rename_i hm
      obtain ⟨fa, h1, hd⟩ := Option.bind_eq_some_iff.mp hd
      obtain ⟨fb, h2, hd⟩ := Option.bind_eq_some_iff.mp hd
      obtain ⟨fc, h3, rfl⟩ := Option.map_eq_some_iff.mp hd
      exact ⟨e_chn _ _ R.hu hm (h.e R h1) (h.e R h2) (h.e R h3), b_chn _ _ R.hu hm (h.e R h1) (h.e R h2) (h.e R h3)⟩
    · cases hd
  · cases hd
theorem k_bool (h : Sd C r) (R : Rdg X G C sc fv E) {op : BoolOp} {vs : List Expr} (hd : dBoolE r sc fv op vs pos = some f) : PE X (.BoolOp op vs pos) (tG G (relV G) E f) := by
  unfold dBoolE at hd
  split at hd
  · exact pe_one (h.e R hd)
  · obtain ⟨fa, h1, hd⟩ := Option.bind_eq_some_iff.mp hd
    obtain ⟨fb, h2, rfl⟩ := Option.map_eq_some_iff.mp hd
    cases op with
    | And => exact e_andV (h.e R h1) (h.e R h2)
    | Or => exact e_orV (h.e R h1) (h.e R h2)
  · cases hd
theorem stE0_ok (h : Sd C r) (R : Rdg X G C sc fv E) (hd : stE0 C r sc fv e = some f) : PE X e (tG G (relV G) E f) := by
  unfold stE0 at hd
  split at hd
  · obtain ⟨d, h1, rfl⟩ := Option.map_eq_some_iff.mp hd
    exact k_const h1
  · exact k_name R hd
  · obtain ⟨fa, h1, hd⟩ := Option.bind_eq_some_iff.mp hd
    obtain ⟨fb, h2, hd⟩ := Option.bind_eq_some_iff.mp hd
    obtain ⟨g, h3, rfl⟩ := Option.map_eq_some_iff.mp hd
    exact k_opC h3 (h.e R h1) (h.e R h2)
  · split at hd
    · obtain ⟨fa, h1, rfl⟩ := Option.map_eq_some_iff.mp hd
      exact e_neg (h.e R h1)
    · obtain ⟨fa, h1, rfl⟩ := Option.map_eq_some_iff.mp hd
      exact e_notV (h.e R h1)
    · cases hd
  · exact k_bool h R hd
  · obtain ⟨fc, h1, hd⟩ := Option.bind_eq_some_iff.mp hd
    obtain ⟨fa, h2, hd⟩ := Option.bind_eq_some_iff.mp hd
    obtain ⟨fb, h3, rfl⟩ := Option.map_eq_some_iff.mp hd
    exact e_ifE (h.t R h1) (h.e R h2) (h.e R h3)
  · exact (k_cmp h R hd).1
  · obtain ⟨fl, h1, rfl⟩ := Option.map_eq_some_iff.mp hd
    exact e_tup (h.l R h1)
  · obtain ⟨fl, h1, rfl⟩ := Option.map_eq_some_iff.mp hd
    exact k_lst (h.l R h1)
  · split at hd
    · split at hd
      · cases hd; exact e_newN
      split at hd
      · cases hd; exact e_newDC
      · cases hd; exact e_newD
    · obtain ⟨d, h1, rfl⟩ := Option.map_eq_some_iff.mp hd
      exact e_disp h1
  · split at hd
    · obtain ⟨fa, h1, hd⟩ := Option.bind_eq_some_iff.mp hd
      obtain ⟨fl, h2, hd⟩ := Option.bind_eq_some_iff.mp hd
      obtain ⟨fh, h3, rfl⟩ := Option.map_eq_some_iff.mp hd
      exact e_sl (h.e R h1) (h.o R h2) (h.o R h3)
    · split at hd
      · rename_i hi
        obtain ⟨fa, h1, hd⟩ := Option.bind_eq_some_iff.mp hd
        obtain ⟨fi, h2, rfl⟩ := Option.map_eq_some_iff.mp hd
        exact e_ix (by have := R.hu; omega) (ix_ok hi) (h.e R h1) (h.e R h2)
      · cases hd
  · split at hd
    · exact k_lc h R hd
    · cases hd
  · split at hd
    · exact k_call h R hd
    · split at hd
      · exact k_meth h R hd
      · cases hd
    · cases hd
  · cases hd
/-- with what is given from outside -/
def stE (C : DC) (r : Dn) (sc : Scope) (fv : Str → Bool) (e : Expr) : Option Ex := match C.hook sc e with
  | some f => some f
  | none => stE0 C r sc fv e
theorem stE_ok (h : Sd C r) (R : Rdg X G C sc fv E) (hd : stE C r sc fv e = some f) : PE X e (tG G (relV G) E f) := by
  unfold stE at hd
  split at hd
  · rename_i g hg
    cases hd
    exact R.hk X sc fv E ⟨rfl, rfl, rfl, rfl, rfl⟩ R.toRdg0 e _ hg
  · exact stE0_ok h R hd
end
end Ev
namespace Ev
open L2 PySem PySem.Spec PyProof.Rows

/-! ## tests, lists, sources, targets -/
def stC (r : Dn) (sc : Scope) (fv : Str → Bool) : Expr → Option ExB
  | .BoolOp op vs pos => match vs with
    | [a] => r.t sc fv a
    | a :: b :: rest => (r.t sc fv a).bind fun fa => (r.c sc fv (.BoolOp op (b :: rest) pos)).map fun fb => match op with
      | .And => andB fa fb
      | .Or => orB fa fb
    | [] => none
  | _ => none
def stT (C : DC) (r : Dn) (sc : Scope) (fv : Str → Bool) : Expr → Option ExB
  | .BoolOp op vs pos => r.c sc fv (.BoolOp op vs pos)
  | .UnaryOp .Not a _ => (r.t sc fv a).map notB
  | .Compare a ops cs _ => (dCmpE C r sc fv a ops cs).map (unB asB)
  | e => if ivE e = true then (r.e sc fv e).map (unB asB) else none
def stL (r : Dn) (sc : Scope) (fv : Str → Bool) : List Expr → Option ExL
  | [] => some arN
  | e :: es => if plE e = true then (r.e sc fv e).bind fun f => (r.l sc fv es).map fun fl => arC f fl else none
def stW (r : Dn) (sc : Scope) (fv : Str → Bool) : List Keyword → Option ExL
  | [] => some arN
  | ⟨_, e, _⟩ :: ks => (r.e sc fv e).bind fun f => (r.w sc fv ks).map fun fl => arC f fl
def stO (r : Dn) (sc : Scope) (fv : Str → Bool) : Option Expr → Option ExO
  | none => some opN
  | some e => (r.e sc fv e).map opS
def isTupE : Expr → Bool
  | .Tuple .. => true
  | _ => false
def stI (C : DC) (r : Dn) (sc : Scope) (fv : Str → Bool) (tg : Expr) (it : Expr) : Option ExS := match it with
  | .Call (.Name x _) args [] pos => if sc.names.lookup x = some .globalImplicit ∧ C.bi x = true ∧ args.all plE = true then
      if x = "enumerate" then if isTupE tg = true ∧ args.length = 1 then (r.l sc fv args).map (srcL srEn) else none
      else if x = "zip" then if isTupE tg = true ∧ args.length = 2 then (r.l sc fv args).map (srcL srZp) else none
      else if x = "range" then if args.length = 1 then (r.l sc fv args).map (srcL fun as S => if as.length = 1 then srRg as S else .bad) else if args.length = 2 then (r.l sc fv args).map (srcL fun as S => if as.length = 2 then srRg as S else .bad) else none
      else (r.e sc fv it).map (src1 srSq)
    else (r.e sc fv it).map (src1 srSq)
  | it => (r.e sc fv it).map (src1 srSq)
def okSt (sc : Scope) (fv : Str → Bool) (x : Str) : Bool := decide (sc.names.lookup x = some .local) || (decide (sc.names.lookup x = some .cell) && fv x)
def stB (C : DC) (r : Dn) (sc : Scope) (fv : Str → Bool) : Expr → Option (Bn × List Nat)
  | .Name x _ => if okSt sc fv x = true then (place x C.N).map fun i => (bnN i, [i]) else none
  | .Tuple es _ _ => if es.all plE = true then (r.bs sc fv es).map fun b => (bnT es.length b.1, b.2) else none
  | _ => none
def stBs (r : Dn) (sc : Scope) (fv : Str → Bool) : List Expr → Option (Bns × List Nat)
  | [] => some (bnsN, [])
  | e :: es => if plE e = true then (r.b sc fv e).bind fun b => (r.bs sc fv es).map fun bs => (bnsC b.1 bs.1, b.2 ++ bs.2) else none
def stG (C : DC) (r : Dn) (sc : Scope) (fv : Str → Bool) : Expr → Option Tg
  | .Name x _ => if okSt sc fv x = true then (place x C.N).map tgN else none
  | .Tuple es _ _ => if es.all plE = true then (r.gs sc fv es).map fun b => tgT es.length b else none
  | .Subscript o i _ => if ixE i = true then (r.e sc fv o).bind fun fo => (r.e sc fv i).map fun fi => if inNd C o = true then tgSN fo fi else tgS fo fi else none
  | _ => none
def stGs (r : Dn) (sc : Scope) (fv : Str → Bool) : List Expr → Option Tgs
  | [] => some tgsN
  | e :: es => if plE e = true then (r.g sc fv e).bind fun b => (r.gs sc fv es).map fun bs => tgsC b bs else none
section
variable {X : Cx} {G : Gc} {C : DC} {r : Dn} {sc : Scope} {fv : Str → Bool} {E : XK} {a b c e tg : Expr} {pos p : Pos} {es : List Expr} {fl : ExL} {fa fb fc f : Ex}
theorem stC_ok {f : ExB} (h : Sd C r) (R : Rdg X G C sc fv E) (hd : stC r sc fv e = some f) : PW X e (tG G relB E f) := by
  unfold stC at hd
  split at hd
  · rename_i op vs pos
    split at hd
    · cases op with
      | And => exact pw_and1 (h.t R hd)
      | Or => exact pw_or1 (h.t R hd)
    · obtain ⟨fa, h1, hd⟩ := Option.bind_eq_some_iff.mp hd
      obtain ⟨fb, h2, rfl⟩ := Option.map_eq_some_iff.mp hd
      cases op with
      | And => exact w_and (h.t R h1) (h.c R h2)
      | Or => exact w_or (h.t R h1) (h.c R h2)
    · cases hd
  · cases hd
theorem stT_ok {f : ExB} (h : Sd C r) (R : Rdg X G C sc fv E) (hd : stT C r sc fv e = some f) : PT X e (tG G relB E f) := by
  unfold stT at hd
  split at hd
  · exact (h.c R hd).pt
  · obtain ⟨fa, h1, rfl⟩ := Option.map_eq_some_iff.mp hd
    exact b_not (h.t R h1)
  · obtain ⟨fa, h1, rfl⟩ := Option.map_eq_some_iff.mp hd
    exact (k_cmp h R h1).2
  · split at hd
    · rename_i hi
      obtain ⟨fa, h1, rfl⟩ := Option.map_eq_some_iff.mp hd
      exact b_val (h.e R h1) (true_ok _ hi)
    · cases hd
theorem stL_ok (h : Sd C r) (R : Rdg X G C sc fv E) (hd : stL r sc fv es = some fl) : PA X es (tG G (relL G) E fl) := by
  unfold stL at hd
  split at hd
  · cases hd; exact a_nil
  · split at hd
    · rename_i hp
      obtain ⟨fa, h1, hd⟩ := Option.bind_eq_some_iff.mp hd
      obtain ⟨fb, h2, rfl⟩ := Option.map_eq_some_iff.mp hd
      exact a_cons (h.e R h1) (h.l R h2) (star_cons _ _ hp)
    · cases hd
theorem stW_ok {kws : List Keyword} (h : Sd C r) (R : Rdg X G C sc fv E) (hd : stW r sc fv kws = some fl) : PK X kws (tG G (relL G) E fl) := by
  unfold stW at hd
  split at hd
  · cases hd; exact k_nil
  · obtain ⟨fa, h1, hd⟩ := Option.bind_eq_some_iff.mp hd
    obtain ⟨fb, h2, rfl⟩ := Option.map_eq_some_iff.mp hd
    exact k_cons (h.e R h1) (h.w R h2)
theorem stO_ok {o : Option Expr} {fo : ExO} (h : Sd C r) (R : Rdg X G C sc fv E) (hd : stO r sc fv o = some fo) : PO X o (tG G relO E fo) := by
  unfold stO at hd
  split at hd
  · cases hd; exact o_none
  · obtain ⟨fa, h1, rfl⟩ := Option.map_eq_some_iff.mp hd
    exact o_some (h.e R h1)
theorem isTup_ex {e : Expr} (h : isTupE e = true) : ∃ es k p, e = .Tuple es k p := by
  cases e <;> first | exact ⟨_, _, _, rfl⟩ | cases h
theorem stI_ok {fs : ExS} (h : Sd C r) (R : Rdg X G C sc fv E) (hd : stI C r sc fv tg e = some fs) : PI X tg e (tG G (relS G) E fs) := by
  unfold stI at hd
  have gen : ∀ {e fs}, (r.e sc fv e).map (src1 srSq) = some fs → PI X tg e (tG G (relS G) E fs) := fun {e fs} hd => by
    obtain ⟨fa, h1, rfl⟩ := Option.map_eq_some_iff.mp hd
    exact i_sq (h.e R h1)
  split at hd
  · rename_i x p args pos
    split at hd
    · rename_i hc
      obtain ⟨hg, hb, hp⟩ := hc
      have gl := R.gli hg
      split at hd
      · rename_i hx
        subst hx
        split at hd
        · rename_i hl
          obtain ⟨fl, h1, rfl⟩ := Option.map_eq_some_iff.mp hd
          obtain ⟨ts, k, tp, rfl⟩ := isTup_ex hl.1
          match args, hl.2, hp with
          | [a], _, hp =>
            have hp' : plE a = true := by simpa using hp
            exact i_en gl (R.bi _ hb) (h.l R h1) (star_cons [] X.env hp')
        · cases hd
      split at hd
      · rename_i hx
        subst hx
        split at hd
        · rename_i hl
          obtain ⟨fl, h1, rfl⟩ := Option.map_eq_some_iff.mp hd
          obtain ⟨ts, k, tp, rfl⟩ := isTup_ex hl.1
          match args, hl.2, hp with
          | [a, b], _, hp =>
            have hp' : plE a = true ∧ plE b = true := by simpa using hp
            exact i_zp gl (R.bi _ hb) (h.l R h1) (star_cons [b] X.env hp'.1) (star_any pos (by simp [hp'.2]))
        · cases hd
      split at hd
      · rename_i hx
        subst hx
        split at hd
        · rename_i hl
          obtain ⟨fl, h1, rfl⟩ := Option.map_eq_some_iff.mp hd
          match args, hl, hp with
          | [a], _, hp =>
            have hp' : plE a = true := by simpa using hp
            exact i_rg1 gl (R.bi _ hb) (h.l R h1) (star_cons [] X.env hp')
        · split at hd
          · rename_i hl
            obtain ⟨fl, h1, rfl⟩ := Option.map_eq_some_iff.mp hd
            match args, hl, hp with
            | [a, b], _, hp =>
              have hp' : plE a = true ∧ plE b = true := by simpa using hp
              exact i_rg2 gl (R.bi _ hb) (h.l R h1) (by rw [star_cons [b] X.env hp'.1, star_cons [] X.env hp'.2]; rfl) (star_cons [] X.env hp'.2)
          · cases hd
      · exact gen hd
    · exact gen hd
  · exact gen hd
theorem okSt_at {x : Str} {X : Cx} (R : Rdg X G C sc fv E) (h : okSt sc fv x = true) : Loc X.env.scope x ∧ (X.fn x = true ∨ X.env.scope.names.lookup x = some .local) := by
  unfold okSt at h
  rw [R.sce, R.fve]
  simp only [Bool.or_eq_true, Bool.and_eq_true, decide_eq_true_eq] at h
  rcases h with h | ⟨h, h2⟩
  · exact ⟨.inl h, .inr h⟩
  · exact ⟨.inr h, .inl h2⟩
theorem asg_len (env : PySem.Env) : ∀ es : List Expr, (assignEach es env).length = es.length
  | [] => rfl
  | e :: es => by
    have ih := asg_len env es
    cases e <;> (show (assignEach es env).length + 1 = es.length + 1; rw [ih])
theorem asg_star (env : PySem.Env) : ∀ {es : List Expr}, es.all plE = true → (assignEach es env).findIdx? (·.1) = none
  | [], _ => rfl
  | e :: es, h => by
    rw [List.all_cons, Bool.and_eq_true] at h
    have ih := asg_star env h.2
    have e1 : assignEach (e :: es) env = (false, assign e env) :: assignEach es env := by
      cases e <;> first | rfl | cases h.1
    rw [e1, List.findIdx?_cons, ih]
    rfl
theorem asg_cons (env : PySem.Env) {e : Expr} (es : List Expr) (h : plE e = true) : (assignEach (e :: es) env).map (·.2) = assign e env :: (assignEach es env).map (·.2) := by
  cases e <;> first | rfl | cases h
theorem stB_ok {f : Bn} {sl : List Nat} (K : PySem.W.Frag) (h : Sd C r) (hd : stB C r sc fv e = some (f, sl)) : ∃ g, (∀ {X : Cx} {G : Gc} {E : XK}, X.K = K → Rdg X G C sc fv E → PG X e g) ∧ ∀ G, GOk G f sl g := by
  unfold stB at hd
  split at hd
  · rename_i x p
    split at hd
    · rename_i ho
      obtain ⟨i, h1, h2⟩ := Option.map_eq_some_iff.mp hd
      cases h2
      refine ⟨gName i, fun {X G E} hK R => ?_, fun G => g_name i⟩
      obtain ⟨o1, o2⟩ := okSt_at R ho
      exact pg_name (by rw [R.nn]; exact R.nd) (by rw [R.nn]; exact place_at h1) o1 o2
    · cases hd
  · rename_i es k p
    split at hd
    · rename_i hp
      obtain ⟨b, h1, h2⟩ := Option.map_eq_some_iff.mp hd
      cases h2
      obtain ⟨g, g1, g2⟩ := h.bs (f := b.1) (sl := b.2) K h1
      refine ⟨gTup K es.length g, fun {X G E} hK R => ?_, fun G => g_tup (g2 G)⟩
      have := pg_tup (k := k) (pos := p) R.cm (g1 hK R) (asg_len _ es) (asg_star _ hp)
      rw [hK] at this
      exact this
    · cases hd
  · cases hd
theorem stBs_ok {f : Bns} {sl : List Nat} (K : PySem.W.Frag) (h : Sd C r) (hd : stBs r sc fv es = some (f, sl)) : ∃ g, (∀ {X : Cx} {G : Gc} {E : XK}, X.K = K → Rdg X G C sc fv E → PGs X es g) ∧ ∀ G, GsOk G f sl g := by
  unfold stBs at hd
  split at hd
  · cases hd
    exact ⟨gNil, fun _ _ => pgs_nil, fun G => gs_nil⟩
  · split at hd
    · rename_i hp
      obtain ⟨b, h1, hd⟩ := Option.bind_eq_some_iff.mp hd
      obtain ⟨bs, h2, h3⟩ := Option.map_eq_some_iff.mp hd
      cases h3
      obtain ⟨g, g1, g2⟩ := h.b (f := b.1) (sl := b.2) K h1
      obtain ⟨g', g3, g4⟩ := h.bs (f := bs.1) (sl := bs.2) K h2
      exact ⟨gCons g g', fun hK R => pgs_cons (g1 hK R) (g3 hK R) (asg_cons _ _ hp), fun G => gs_cons (g2 G) (g4 G)⟩
    · cases hd
theorem stG_ok {t : Tg} (h : Sd C r) (R : Rdg X G C sc fv E) (hd : stG C r sc fv e = some t) : ∃ g, PG X e g ∧ TOk G E t g := by
  unfold stG at hd
  split at hd
  · split at hd
    · rename_i ho
      obtain ⟨i, h1, rfl⟩ := Option.map_eq_some_iff.mp hd
      obtain ⟨o1, o2⟩ := okSt_at R ho
      exact ⟨gName i, pg_name (by rw [R.nn]; exact R.nd) (by rw [R.nn]; exact place_at h1) o1 o2, tg_name i⟩
    · cases hd
  · rename_i es k p
    split at hd
    · rename_i hp
      obtain ⟨b, h1, rfl⟩ := Option.map_eq_some_iff.mp hd
      obtain ⟨g, g1, g2⟩ := h.gs R h1
      exact ⟨_, pg_tup R.cm g1 (asg_len _ es) (asg_star _ hp), tg_tup g2⟩
    · cases hd
  · rename_i ov iv pv
    split at hd
    · rename_i hi
      obtain ⟨fo, h1, hd⟩ := Option.bind_eq_some_iff.mp hd
      obtain ⟨fi, h2, rfl⟩ := Option.map_eq_some_iff.mp hd
      have ha : ∀ v, assign (.Subscript ov iv pv) X.env v = (do
          let o ← holding [v] (eval ov X.env)
          let i ← holding [v, o] (eval iv X.env)
          standAt pv
          holding [v, o, i] (setItem o i v)
          release [v, o, i] []) := fun v => by
        clear h1 h2 hd
        cases iv <;> first | rfl | cases hi
      by_cases hn : inNd C ov = true
      · rw [if_pos hn]
        exact ⟨_, pg_sub (h.e R h1) (h.e R h2) (set_N R.hu R.pw) ha, tg_subN⟩
      · rw [if_neg hn]
        exact ⟨_, pg_sub (h.e R h1) (h.e R h2) (set_A (by have := R.hu; omega)) ha, tg_sub⟩
    · cases hd
  · cases hd
theorem stGs_ok {t : Tgs} (h : Sd C r) (R : Rdg X G C sc fv E) (hd : stGs r sc fv es = some t) : ∃ g, PGs X es g ∧ TsOk G E t g := by
  unfold stGs at hd
  split at hd
  · cases hd
    exact ⟨gNil, pgs_nil, tgs_nil⟩
  · split at hd
    · rename_i hp
      obtain ⟨b, h1, hd⟩ := Option.bind_eq_some_iff.mp hd
      obtain ⟨bs, h2, rfl⟩ := Option.map_eq_some_iff.mp hd
      obtain ⟨g, g1, g2⟩ := h.g R h1
      obtain ⟨g', g3, g4⟩ := h.gs R h2
      exact ⟨_, pgs_cons g1 g3 (asg_cons _ _ hp), tgs_cons g2 g4⟩
    · cases hd
end
end Ev
namespace Ev
open L2 PySem PySem.Spec PyProof.Rows

/-! ## statements -/
def isStar : Expr → Bool
  | .Starred .. => true
  | _ => false
def swNames (sc : Scope) (ts : List Expr) : List Str := ts.filterMap fun
    | .Name id pos => if sc.names.lookup id == some .local && pos.line == (ts.head?.map (·.pos.line)).getD 0 then some id else none
    | _ => none
/-- are the stores exchanged? -/
def swD (sc : Scope) (ts vs : List Expr) : Option Bool :=
  if (!(ts.length == 2 || ts.length == 3) || vs.length != ts.length) = true then some false else if vs.any isStar = true then some false else
    if ((swNames sc ts).length != ts.length || (swNames sc ts).eraseDups.length != (swNames sc ts).length) = true then some false else if vs.all (foldedForSure 8) = true then some false else if vs.all (constantsAlone 8) = true then none else some true
theorem sw_at {env : PySem.Env} (hk : env.blockKind = .function) {ts vs : List Expr} {k k2 : Nat} {p p2 : Pos} {b : Bool} (h : swD env.scope ts vs = some b) : swappedStores [.Tuple ts k p] (.Tuple vs k2 p2) env = pure (if b = true then some (swNames env.scope ts) else none) := by
  unfold swD at h
  unfold swappedStores
  simp only [hk]
  by_cases h1 : (!(ts.length == 2 || ts.length == 3) || vs.length != ts.length) = true
  · rw [if_pos h1] at h
    cases h
    rw [if_pos (by rw [h1]; rfl)]
    rfl
  rw [if_neg h1] at h
  rw [if_neg (by simpa using h1)]
  by_cases h2 : vs.any isStar = true
  · rw [if_pos h2] at h
    cases h
    rw [if_pos (by exact h2)]
    rfl
  rw [if_neg h2] at h
  rw [if_neg (by exact h2)]
  by_cases h3 : ((swNames env.scope ts).length != ts.length || (swNames env.scope ts).eraseDups.length != (swNames env.scope ts).length) = true
  · rw [if_pos h3] at h
    cases h
    rw [if_pos (by exact h3)]
    rfl
  rw [if_neg h3] at h
  rw [if_neg (by exact h3)]
  by_cases h4 : vs.all (foldedForSure 8) = true
  · rw [if_pos h4] at h
    cases h
    rw [if_pos h4]
    rfl
  rw [if_neg h4] at h
  rw [if_neg h4]
  by_cases h5 : vs.all (constantsAlone 8) = true
  · rw [if_pos h5] at h
    cases h
  rw [if_neg h5] at h
  cases h
  rw [if_neg h5]
  rfl
theorem sw_other {tg e : Expr} {env : PySem.Env} (h : isTupE e = false) : swappedStores [tg] e env = pure none := by
  unfold swappedStores
  cases e <;> first | (cases h; done) | skip
  all_goals (cases tg <;> rfl)
theorem sw_other2 {tg e : Expr} {env : PySem.Env} (h : isTupE tg = false) (h2 : ∀ ts p, tg ≠ .List ts p) : swappedStores [tg] e env = pure none := by
  unfold swappedStores
  cases tg <;> first | (cases h; done) | (exact absurd rfl (h2 _ _)) | skip
  all_goals (cases e <;> rfl)
theorem swap_lc {env : PySem.Env} {elt : Expr} {gs : List Comprehension} {scope : Scope} {pos py : Pos} {y : Str} {l : Nat} (hk : env.blockKind = .function) : swapsWith (.ListComp elt gs scope pos) (some (.Name y py)) l env =
    pure (env.kindOf y == some .local && py.line == pos.line && !(scope.names.any fun (n, k) => n == y && (k == .local || k == .cell))) := by
  unfold swapsWith
  simp only [hk, Expr.pos]
  rfl
def isLC : Expr → Bool
  | .ListComp .. => true
  | _ => false
def rse (c : Nat) (n : Nat) (fl : ExL) : Sm := fun ρ S => (fl ρ S).bind fun ds S1 => if ds.length = n then .ex c ds S1 else .bad
def stAsg (C : DC) (r : Dn) (sc : Scope) (fv : Str → Bool) (tg v : Expr) : Option Sm := match tg with
  | .Name x px => if okSt sc fv x = true then (place x C.N).bind fun i => match v with
      | .ListComp elt gs scope p => match gs with
        | [⟨t, it, ifs, 0⟩] => (dLc C r sc fv elt t it ifs scope p).map fun f => asg f (bnN i)
        | _ => none
      | v => if ncE v = true then (r.e sc fv v).map fun f => asg f (bnN i) else none
    else none
  | .Tuple ts k p => if ts.all plE = true then match v with
      | .Tuple vs _ _ => match swD sc ts vs with
        | some true => match ts with
          | [.Name x _, .Name y _] => if swNames sc ts = [x, y] ∧ x ≠ y ∧ sc.names.lookup x = some .local ∧ sc.names.lookup y = some .local ∧ vs.length = 2 then (place x C.N).bind fun i => (place y C.N).bind fun j => (r.l sc fv vs).map (par2 i j) else none
          | [.Name x _, .Name y _, .Name z _] => if swNames sc ts = [x, y, z] ∧ (x ≠ y ∧ x ≠ z ∧ y ≠ z) ∧ sc.names.lookup x = some .local ∧ sc.names.lookup y = some .local ∧ sc.names.lookup z = some .local ∧ vs.length = 3 then
              (place x C.N).bind fun i => (place y C.N).bind fun j => (place z C.N).bind fun l => (r.l sc fv vs).map (par3 i j l) else none
          | _ => none
        | some false => (r.e sc fv v).bind fun f => (r.g sc fv (.Tuple ts k p)).map fun t => asT f t
        | none => none
      | v => if ncE v = true then (r.e sc fv v).bind fun f => (r.g sc fv (.Tuple ts k p)).map fun t => asT f t else none
    else none
  | .Subscript o i p => if ncE v = true then (r.e sc fv v).bind fun f => (r.g sc fv (.Subscript o i p)).map fun t => asT f t else none
  | _ => none
def stRaise (C : DC) (r : Dn) (sc : Scope) (fv : Str → Bool) : Expr → Option Sm
  | .Call (.Name x _) args [] _ => match args with
    | [] => none
    | a :: as => if sc.names.lookup x = some .globalImplicit ∧ (a :: as).all plE = true then (C.exc x).bind fun c => (r.l sc fv (a :: as)).map fun fl => rse c (C.xf c) fl else none
  | _ => none
def stS (C : DC) (r : Dn) (sc : Scope) (fv : Str → Bool) : Stmt → Option Sm
  | .Return v _ => match v with
    | some a => (r.e sc fv a).map ret
    | none => some (ret (cst .non))
  | .Expr a _ => if ncE a = true then (r.e sc fv a).map dro else none
  | .Pass _ => some skp
  | .Break _ => some brk
  | .Continue _ => some cnt
  | .If c a b _ => (r.t sc fv c).bind fun fc => (r.ss sc fv a).bind fun fa => (r.ss sc fv b).map fun fb => ifS fc fa fb
  | .For tg it body els _ => match els with
    | [] => if nsE it = true then (r.i sc fv tg it).bind fun fi => (r.b sc fv tg).bind fun b => (r.ss sc fv body).map fun f => forS fi b.1 f else none
    | _ => none
  | .While c body els _ => match els with
    | [] => (r.t sc fv c).bind fun fc => (r.ss sc fv body).map fun f => whS C.wh fc f
    | _ => none
  | .Assign ts v _ => match ts with
    | [tg] => stAsg C r sc fv tg v
    | _ => none
  | .Raise e cause _ => match e, cause with
    | some e, none => stRaise C r sc fv e
    | _, _ => none
  | _ => none
def stSs (r : Dn) (sc : Scope) (fv : Str → Bool) : List Stmt → Option Sm
  | [] => some skp
  | s :: ss => match ss with
    | [] => r.s sc fv s
    | s2 :: ss => (r.s sc fv s).bind fun f => (r.ss sc fv (s2 :: ss)).map fun g => sq f g
section
variable {X : Cx} {G : Gc} {C : DC} {r : Dn} {sc : Scope} {fv : Str → Bool} {E : XK} {a b c e tg v : Expr} {pos p : Pos} {es : List Expr} {fl : ExL} {fa fb fc f : Ex}
theorem Rdg0.bk (R : Rdg0 X G C sc fv E) : X.env.blockKind = .function := by
  unfold Env.blockKind
  rw [R.sce, R.kd]
  rfl
theorem place_ne {x y : Str} {N : List Str} {i j : Nat} (h1 : place x N = some i) (h2 : place y N = some j) (hn : x ≠ y) : i ≠ j := fun z => by
  subst z
  have e1 := place_at h1
  rw [place_at h2] at e1
  exact hn (Option.some.inj e1).symm
theorem s_setLc {elt t it : Expr} {ifs : List Expr} {scope : Scope} {x : Str} {px lp : Pos} {i : Nat} (h : Sd C r) (R : Rdg X G C sc fv E) (hi : place x C.N = some i) (ho : okSt sc fv x = true) (hd : dLc C r sc fv elt t it ifs scope lp = some f) :
    PS X (.Assign [.Name x px] (.ListComp elt [⟨t, it, ifs, 0⟩] scope lp) pos) (tS G E (asg f (bnN i))) := by
  obtain ⟨o1, o2⟩ := okSt_at R ho
  have hN : X.N.Nodup := by rw [R.nn]; exact R.nd
  have hi : X.N[i]? = some x := by rw [R.nn]; exact place_at hi
  have sw := swap_lc (env := X.env) (elt := elt) (gs := [⟨t, it, ifs, 0⟩]) (scope := scope) (pos := lp) (py := px) (y := x) (l := pos.line) R.toRdg0.bk
  cases hb : (X.env.kindOf x == some .local && px.line == lp.line && !(scope.names.any fun (n, k) => n == x && (k == .local || k == .cell))) with
  | false =>
    rw [hb] at sw
    exact s_set hN hi o1 (k_lc h R hd) sw o2
  | true =>
    rw [hb] at sw
    have hl : X.env.scope.names.lookup x = some .local := by
      have : X.env.kindOf x = some .local := by
        simp only [Bool.and_eq_true, beq_iff_eq] at hb
        exact hb.1.1
      exact this
    obtain ⟨fs, g, ft, fe, own, a1, a2, a3, a4, a5, a6, a7⟩ := lc_ok h R hd
    refine ps_imp (ps_setLc R.cm hN hi hl sw a1 a2 a3 a4 a5 a6) fun D σ H q => ?_
    have q2 := t_asg (fa := f) (g_name i) q
    exact a7 _ _ _ q2
theorem raise_ok {x : Str} {p2 : Pos} {as : List Expr} {c : Nat} (R : Rdg X G C sc fv E) (hg : sc.names.lookup x = some .globalImplicit) (hp : (a :: as).all plE = true) (hc : C.exc x = some c) (ha : PA X (a :: as) (tG G (relL G) E fl)) :
    PS X (.Raise (some (.Call (.Name x p2) (a :: as) [] p)) none pos) (tS G E (rse c (G.xf c).length fl)) := by
  have k := R.ex x c hc X ⟨rfl, rfl, rfl, rfl, rfl⟩ R.cm R.rm (R.gli hg) a as _ p2 p ha hp
  refine ps_imp (ps_raise R.cm R.tk k) fun D σ H ⟨own, res, S, ρ, w, en, q⟩ => ?_
  refine ⟨own, res, S, ρ, w, en, (GoodS.bind (r1 := relL G) q).imp fun vs H1 ⟨own1, S1, ds, g1, w1, r1, q1⟩ => ?_⟩
  split at q1
  · rename_i hl
    refine ⟨by rw [← r1.length]; exact hl, fun d fs hd hf => ?_⟩
    have n := w1.fresh hd
    refine q1 own1 _ _ _ (Grow.laid hd n.1) (w1.laid hd) ⟨rfl, d, fs, rfl, upd_same, n.1, fun i nm a e1 e2 => ?_⟩
    obtain ⟨v, h1, h2⟩ := r1.get e2
    exact ⟨v, hf i nm v e1 h1, h2.laid hd n.1⟩
  · exact q1.elim
theorem stAsg_ok {g : Sm} (h : Sd C r) (R : Rdg X G C sc fv E) (hd : stAsg C r sc fv tg v = some g) : PS X (.Assign [tg] v pos) (tS G E g) := by
  unfold stAsg at hd
  have hN : X.N.Nodup := by rw [R.nn]; exact R.nd
  split at hd
  · rename_i x px
    split at hd
    · rename_i ho
      obtain ⟨i, h1, hd⟩ := Option.bind_eq_some_iff.mp hd
      obtain ⟨o1, o2⟩ := okSt_at R ho
      have hi : X.N[i]? = some x := by rw [R.nn]; exact place_at h1
      split at hd
      · split at hd
        · obtain ⟨f, h2, rfl⟩ := Option.map_eq_some_iff.mp hd
          exact s_setLc h R h1 ho h2
        · cases hd
      · split at hd
        · rename_i hv
          obtain ⟨f, h2, rfl⟩ := Option.map_eq_some_iff.mp hd
          exact s_set hN hi o1 (h.e R h2) (swap_ok _ _ _ hv) o2
        · cases hd
    · cases hd
  · rename_i ts k p
    split at hd
    · rename_i hp
      split at hd
      · rename_i vs k2 p2
        split at hd
        · rename_i hs
          rw [← R.sce] at hs
          have hw := sw_at R.toRdg0.bk (k := k) (k2 := k2) (p := p) (p2 := p2) hs
          rw [if_pos rfl] at hw
          split at hd
          · rename_i x px y py
            split at hd
            · rename_i hc
              obtain ⟨e1, hxy, lx, ly, lv⟩ := hc
              obtain ⟨i, h1, hd⟩ := Option.bind_eq_some_iff.mp hd
              obtain ⟨j, h2, hd⟩ := Option.bind_eq_some_iff.mp hd
              obtain ⟨fl, h3, rfl⟩ := Option.map_eq_some_iff.mp hd
              rw [R.sce, e1] at hw
              match vs, lv, h3, hw with
              | [a, b], _, h3, hw => exact ps_imp (ps_par R.cm hN (by rw [R.nn]; exact place_at h1) (by rw [R.nn]; exact place_at h2) (place_ne h1 h2 hxy) (by rw [R.sce]; exact lx) (by rw [R.sce]; exact ly) (h.l R h3) hw (swapS_ok _ _ rfl)) fun _ _ _ => t_par2
            · cases hd
          · rename_i x px y py z pz
            split at hd
            · rename_i hc
              obtain ⟨e1, ⟨hxy, hxz, hyz⟩, lx, ly, lz, lv⟩ := hc
              obtain ⟨i, h1, hd⟩ := Option.bind_eq_some_iff.mp hd
              obtain ⟨j, h2, hd⟩ := Option.bind_eq_some_iff.mp hd
              obtain ⟨l, h4, hd⟩ := Option.bind_eq_some_iff.mp hd
              obtain ⟨fl, h3, rfl⟩ := Option.map_eq_some_iff.mp hd
              rw [R.sce, e1] at hw
              match vs, lv, h3, hw with
              | [a, b, c], _, h3, hw => exact ps_imp (ps_par3 R.cm hN (by rw [R.nn]; exact place_at h1) (by rw [R.nn]; exact place_at h2) (by rw [R.nn]; exact place_at h4) (place_ne h1 h2 hxy) (place_ne h1 h4 hxz) (place_ne h2 h4 hyz) (by rw [R.sce]; exact lx) (by rw [R.sce]; exact ly) (by rw [R.sce]; exact lz) (h.l R h3) hw (swapS_ok _ _ rfl)) fun _ _ _ => t_par3
            · cases hd
          · cases hd
        · rename_i hs
          rw [← R.sce] at hs
          have hw := sw_at R.toRdg0.bk (k := k) (k2 := k2) (p := p) (p2 := p2) hs
          obtain ⟨f, h1, hd⟩ := Option.bind_eq_some_iff.mp hd
          obtain ⟨t, h2, rfl⟩ := Option.map_eq_some_iff.mp hd
          obtain ⟨g, g1, g2⟩ := h.g R h2
          exact s_asT g1 g2 (h.e R h1) (swapS_ok _ _ rfl) hw rfl
        · cases hd
      · rename_i hnt
        split at hd
        · rename_i hv
          obtain ⟨f, h1, hd⟩ := Option.bind_eq_some_iff.mp hd
          obtain ⟨t, h2, rfl⟩ := Option.map_eq_some_iff.mp hd
          obtain ⟨g, g1, g2⟩ := h.g R h2
          refine s_asT g1 g2 (h.e R h1) (swapS_ok _ _ hv) (sw_other ?_) rfl
          cases v <;> first | rfl | exact absurd rfl (hnt _ _ _)
        · cases hd
    · cases hd
  · split at hd
    · rename_i hv
      obtain ⟨f, h1, hd⟩ := Option.bind_eq_some_iff.mp hd
      obtain ⟨t, h2, rfl⟩ := Option.map_eq_some_iff.mp hd
      obtain ⟨g, g1, g2⟩ := h.g R h2
      exact s_asT g1 g2 (h.e R h1) (swapS_ok _ _ hv) (sw_other2 rfl fun _ _ z => by cases z) rfl
    · cases hd
  · cases hd
theorem stS_ok {s : Stmt} {g : Sm} (h : Sd C r) (R : Rdg X G C sc fv E) (hd : stS C r sc fv s = some g) : PS X s (tS G E g) := by
  unfold stS at hd
  split at hd
  · split at hd
    · obtain ⟨f, h1, rfl⟩ := Option.map_eq_some_iff.mp hd
      exact s_ret (h.e R h1)
    · cases hd
      exact s_retN
  · split at hd
    · rename_i hv
      obtain ⟨f, h1, rfl⟩ := Option.map_eq_some_iff.mp hd
      exact s_dro (h.e R h1) (swap_ok _ _ _ hv)
    · cases hd
  · cases hd; exact s_pass
  · cases hd; exact s_brk
  · cases hd; exact s_cnt
  · obtain ⟨fc, h1, hd⟩ := Option.bind_eq_some_iff.mp hd
    obtain ⟨fa, h2, hd⟩ := Option.bind_eq_some_iff.mp hd
    obtain ⟨fb, h3, rfl⟩ := Option.map_eq_some_iff.mp hd
    exact s_ifS (h.t R h1) (h.ss R h2) (h.ss R h3)
  · split at hd
    · split at hd
      · rename_i hn
        obtain ⟨fi, h1, hd⟩ := Option.bind_eq_some_iff.mp hd
        obtain ⟨b, h2, hd⟩ := Option.bind_eq_some_iff.mp hd
        obtain ⟨f, h3, rfl⟩ := Option.map_eq_some_iff.mp hd
        obtain ⟨g, g1, g2⟩ := h.b (f := b.1) (sl := b.2) X.K h2
        exact s_for (wi := fun _ _ _ => False) R.po R.cm (h.i R h1) (g1 rfl R) (g2 G) (h.ss R h3) (fold_ok _ hn)
      · cases hd
    · cases hd
  · split at hd
    · obtain ⟨fc, h1, hd⟩ := Option.bind_eq_some_iff.mp hd
      obtain ⟨f, h3, rfl⟩ := Option.map_eq_some_iff.mp hd
      exact s_while _ R.po (h.t R h1) (h.ss R h3)
    · cases hd
  · split at hd
    · exact stAsg_ok h R hd
    · cases hd
  · split at hd
    · unfold stRaise at hd
      split at hd
      · split at hd
        · cases hd
        · split at hd
          · rename_i hc
            obtain ⟨c, h1, hd⟩ := Option.bind_eq_some_iff.mp hd
            obtain ⟨fl, h2, rfl⟩ := Option.map_eq_some_iff.mp hd
            rw [← R.xl]
            exact raise_ok R hc.1 hc.2 h1 (h.l R h2)
          · cases hd
      · cases hd
    · cases hd
  · cases hd
theorem stSs_ok {ss : List Stmt} {g : Sm} (h : Sd C r) (R : Rdg X G C sc fv E) (hd : stSs r sc fv ss = some g) : PSs X ss (tS G E g) := by
  unfold stSs at hd
  split at hd
  · cases hd; exact s_nil
  · split at hd
    · exact s_one (h.s R hd)
    · obtain ⟨f, h1, hd⟩ := Option.bind_eq_some_iff.mp hd
      obtain ⟨f2, h2, rfl⟩ := Option.map_eq_some_iff.mp hd
      exact s_cons (h.s R h1) (h.ss R h2)
end
/-! ## all of it -/
def dn0 : Dn := ⟨fun _ _ _ => none, fun _ _ _ => none, fun _ _ _ => none, fun _ _ _ => none, fun _ _ _ => none, fun _ _ _ => none, fun _ _ _ _ => none, fun _ _ _ => none, fun _ _ _ => none, fun _ _ _ => none, fun _ _ _ => none, fun _ _ _ => none, fun _ _ _ => none⟩
def dnS (C : DC) (r : Dn) : Dn where
  e := stE C r
  t := stT C r
  c := stC r
  l := stL r
  w := stW r
  o := stO r
  i := stI C r
  b := stB C r
  bs := stBs r
  g := stG C r
  gs := stGs r
  s := stS C r
  ss := stSs r
/-- the reading of a text to a depth -/
def den (C : DC) (n : Nat) : Dn := Nat.rec dn0 (fun _ r => dnS C r) n
theorem den_ok (C : DC) : ∀ n, Sd C (den C n)
  | 0 => by
    constructor <;> intros <;> (rename_i h; exact absurd h (by intro z; cases z))
  | n + 1 => by
    have ih := den_ok C n
    exact ⟨stE_ok ih, stT_ok ih, stC_ok ih, stL_ok ih, stW_ok ih, stO_ok ih, stI_ok ih, fun K => stB_ok K ih, fun K => stBs_ok K ih, stG_ok ih, stGs_ok ih, stS_ok ih, stSs_ok ih⟩
end Ev
namespace Ev
open L2 PySem PySem.Spec PyProof.Rows

/-! ## no cell from n on -/
mutual
def cln (n : Nat) : D → Bool
  | .m k => decide (k < n)
  | .lst xs => clns n xs
  | .tup xs => clns n xs
  | .frz xs => clns n xs
  | .dct _ vs => clns n vs
  | _ => true
def clns (n : Nat) : List D → Bool
  | [] => true
  | d :: ds => cln n d && clns n ds
end
def obC (n : Nat) : Ob → Bool
  | .lst xs => clns n xs
  | .dct _ vs => clns n vs
  | .ndc ks vs => clns n ks && clns n vs
/-- a new cell told as a tree -/
def fzD (n : Nat) (S : Sto) (d : D) : Option D := if cln n d = true then some d else match d with
  | .m k => match S[k]? with
    | some (.lst xs) => if clns n xs = true then some (.lst xs) else none
    | some (.dct ks vs) => if clns n vs = true then some (.dct ks vs) else none
    | _ => none
  | _ => none
def fzR (n : Nat) : R D → R D
  | .ok d S => if (S.take n).all (obC n) = true then match fzD n S d with
      | some d' => .ok d' (S.take n)
      | none => .bad
    else .bad
  | r => r
section
variable {G : Gc} {E : XK} {H H' : Hp} {own own' res : List Addr} {S : Sto}
mutual
theorem Rep.down (hp : ∀ i a, i < own.length → own'[i]? = some a → own[i]? = some a) (hs : ∀ a, a ∈ own → a ∈ own') : ∀ (d : D) (v : V), cln own.length d = true → Rep G H own' res d v → Rep G H own res d v
  | .non, _, _, h | .bl _, _, _, h | .int _, _, _, h | .str _, _, _, h | .fn _, _, _, h | .cl _, _, _, h | .ty _, _, _, h => h
  | .lst ds, v, c, h => by
    obtain ⟨a, vs, e, h1, h2, h3, h4⟩ := h
    exact ⟨a, vs, e, h1, fun z => h2 (hs a z), h3, Reps.down hp hs ds vs c h4⟩
  | .tup ds, v, c, h => by
    obtain ⟨a, vs, e, h1, h2, h3, h4⟩ := h
    exact ⟨a, vs, e, h1, fun z => h2 (hs a z), h3, Reps.down hp hs ds vs c h4⟩
  | .frz ds, v, c, h => by
    obtain ⟨a, o, vs, e, h1, h2, h3, h4⟩ := h
    exact ⟨a, o, vs, e, h1, fun z => h2 (hs a z), h3, Reps.down hp hs ds vs c h4⟩
  | .dct ks ds, v, c, h => by
    obtain ⟨a, kvs, e, h1, h2, h3, h5, h4⟩ := h
    exact ⟨a, kvs, e, h1, fun z => h2 (hs a z), h3, h5, Reps.down hp hs ds _ c h4⟩
  | .m i, v, c, h => by
    obtain ⟨a, e, h1⟩ := h
    exact ⟨a, e, hp i a (of_decide_eq_true c) h1⟩
theorem Reps.down (hp : ∀ i a, i < own.length → own'[i]? = some a → own[i]? = some a) (hs : ∀ a, a ∈ own → a ∈ own') : ∀ (ds : List D) (vs : List V), clns own.length ds = true → Reps G H own' res ds vs → Reps G H own res ds vs
  | [], _, _, h => h
  | d :: ds, vs, c, h => by
    obtain ⟨v, w, e, h1, h2⟩ := h
    have c : (cln own.length d && clns own.length ds) = true := c
    rw [Bool.and_eq_true] at c
    exact ⟨v, w, e, Rep.down hp hs d v c.1 h1, Reps.down hp hs ds w c.2 h2⟩
end
theorem ObR.down (hp : ∀ i a, i < own.length → own'[i]? = some a → own[i]? = some a) (hs : ∀ a, a ∈ own → a ∈ own') {a : Addr} : ∀ {o : Ob}, obC own.length o = true → ObR G H own' res a o → ObR G H own res a o
  | .lst ds, c, ⟨vs, h1, h2⟩ => ⟨vs, h1, Reps.down hp hs _ _ c h2⟩
  | .dct ks ds, c, ⟨kvs, h1, h3, h2⟩ => ⟨kvs, h1, h3, Reps.down hp hs _ _ c h2⟩
  | .ndc ks ds, c, ⟨es, h1, h2, h3, h4⟩ => by
    have c : (clns own.length ks && clns own.length ds) = true := c
    rw [Bool.and_eq_true] at c
    exact ⟨es, h1, Reps.down hp hs _ _ c.1 h2, h3, Reps.down hp hs _ _ c.2 h4⟩
theorem Wd.down (w : Wd G own' res S H') (g : Grow own H own' H') (hc : (S.take own.length).all (obC own.length) = true) : Grow own H own H' ∧ Wd G own res (S.take own.length) H' ∧ (∀ i a, i < own.length → own'[i]? = some a → own[i]? = some a) ∧ ∀ a, a ∈ own → a ∈ own' := by
  obtain ⟨t, ht⟩ := g.pre
  have hp : ∀ i a, i < own.length → own'[i]? = some a → own[i]? = some a := fun i a hi e => by
    rw [ht, List.getElem?_append_left hi] at e
    exact e
  have hs : ∀ a, a ∈ own → a ∈ own' := fun a h => by rw [ht]; exact List.mem_append_left _ h
  have hl : own.length ≤ S.length := by
    rw [← w.len, ht, List.length_append]
    omega
  refine ⟨⟨⟨[], by simp⟩, g.keep, fun a h n => absurd h n⟩, ⟨by rw [List.length_take]; omega, ?_, fun a h => w.dis a (hs a h), fun k o a h1 h2 => ?_, w.rest, w.tabs⟩, hp, hs⟩
  · have := w.nod
    rw [ht, List.nodup_append] at this
    exact this.1
  · have hk : k < own.length := (List.getElem?_eq_some_iff.mp h2).1
    have hm : o ∈ S.take own.length := List.mem_of_getElem? h1
    have c := List.all_eq_true.mp hc o hm
    rw [List.getElem?_take_of_lt hk] at h1
    exact ObR.down hp hs c (w.cell k o a h1 (g.at h2))
theorem fzR_ok {Q : VK} (hl : own.length = S.length) : ∀ {r : R D}, Good G (relV G) own res H Q E (fzR S.length r) → Good G (relV G) own res H Q E r
  | .ok d S', h => fun own' H' x g w r => by
    have h : Good G (relV G) own res H Q E (if (S'.take S.length).all (obC S.length) = true then match fzD S.length S' d with | some d' => .ok d' (S'.take S.length) | none => .bad else .bad) := h
    rw [← hl] at h
    split at h
    · rename_i hc
      obtain ⟨g2, w2, hp, hs⟩ := Wd.down w g hc
      split at h
      · rename_i d' hd
        refine h own H' x g2 w2 ?_
        show Rep G H' own res d' x
        have gen : cln own.length d = true → Rep G H' own res d x := fun c => Rep.down hp hs d x c r
        unfold fzD at hd
        split at hd
        · rename_i hk
          cases hd
          exact gen hk
        · rename_i hk
          split at hd
          · rename_i k
            obtain ⟨a, rfl, ha⟩ := r
            have na : a ∉ own := fun z => by
              obtain ⟨i, hi, e⟩ := List.mem_iff_getElem.mp z
              obtain ⟨t, ht⟩ := g.pre
              have h1 : own'[i]? = some a := by rw [ht, List.getElem?_append_left hi]; simp [hi, e]
              have hk' := (List.getElem?_eq_some_iff.mp ha).1
              have hi' := (List.getElem?_eq_some_iff.mp h1).1
              have e1 : own'[i] = own'[k] := by
                have e2 := (List.getElem?_eq_some_iff.mp ha).2
                have e3 := (List.getElem?_eq_some_iff.mp h1).2
                rw [e2, e3]
              have e4 := (List.getElem_inj w.nod).mp e1
              exact hk (decide_eq_true (show k < own.length by omega))
            have nr : a ∉ res := w.dis a (List.mem_of_getElem? ha)
            split at hd
            · rename_i xs hS
              split at hd
              · rename_i hx
                cases hd
                obtain ⟨vs, q1, q2⟩ := w.cell k _ a hS ha
                exact ⟨a, vs, rfl, q1, na, nr, Reps.down hp hs _ _ hx q2⟩
              · cases hd
            · rename_i ks vs hS
              split at hd
              · rename_i hx
                cases hd
                obtain ⟨kvs, q1, q3, q2⟩ := w.cell k _ a hS ha
                exact ⟨a, kvs, rfl, q1, na, nr, q3, Reps.down hp hs _ _ hx q2⟩
              · cases hd
            · cases hd
          · cases hd
      · exact h.elim
    · exact h.elim
  | .ex _ _ _, h => h
  | .bad, h => h
end

/-! ## defs, level by level -/
/-- a def as it is read -/
structure Vr where
  nm : Str
  args : Arguments
  body : List Stmt
  sc : Scope
  N : List Str
  ps : List Str
  cal : List (Str × Nat)
  cells : List (Nat × Nat)
  kw : Nat → List Str → Option (List Nat)
  gd : Bool
  fz : Bool
  lam : Bool
  ndv : List Str
  nds : List (Nat × Nat)
/-- what the module's names are -/
structure Md where
  pg : List Vr
  gl : Str → Option D
  bi : Str → Bool
  exc : Str → Option Nat
  xf : Nat → Nat
  wh : Nat
  fuel : Nat
  gdc : Str → Option (List (Str × D))
  hook : Nat → (Nat → Fn) → Vr → Scope → Expr → Option Ex
def runB (n : Nat) (fz : Bool) (f : Sm) : Fn := fun ds S => (fun r => if fz = true then fzR S.length r else r) (match f (ds.map some ++ List.replicate (n - ds.length) none) S with
  | .ok (.rt d) S1 => .ok d S1
  | .ok (.nx _) S1 => .ok .non S1
  | .ok _ _ => .bad
  | .ex c as S1 => .ex c as S1
  | .bad => .bad)
def fcOf (M : Md) (cal : Nat → Fn) (v : Nat) : Option FC := (M.pg[v]?).map fun W => ⟨W.ps, cal v, W.gd, W.kw⟩
def dcOf (M : Md) (cal : Nat → Fn) (k : Nat) (V : Vr) : DC where
  N := V.N
  gl := M.gl
  bi := M.bi
  fnc := fun x => (V.cal.lookup x).bind (fcOf M cal)
  cells := V.cells
  gd := V.gd
  k := k
  wh := M.wh
  exc := M.exc
  xf := M.xf
  lam := V.lam
  hook := M.hook k cal V
  gdc := M.gdc
  ndv := V.ndv
  nds := V.nds
def semB (M : Md) (cal : Nat → Fn) (k : Nat) (V : Vr) : Option Sm := (den (dcOf M cal k V) M.fuel).ss V.sc (fun _ => true) V.body
def sem (M : Md) : Nat → Nat → Fn
  | 0, _ => fun _ _ => .bad
  | k + 1, v => match M.pg[v]? with
    | some V => match semB M (sem M k) (3 * k + 2) V with
      | some f => runB V.N.length V.fz f
      | none => fun _ _ => .bad
    | none => fun _ _ => .bad
/-- what is known of the module behind the top: where its defs stand -/
structure MdK (M : Md) (G : Gc) (P : Program) (w : World) (K : PySem.W.Frag) (mg : Str → Option Value) (base : Heap) (fd : Nat → FuncData) : Prop where
  pw : G.prog = P ∧ G.w = w
  xl : ∀ c, (G.xf c).length = M.xf c
  gl : ∀ x d, M.gl x = some d → GlV G mg x d
  bi : ∀ x, M.bi x = true → mg x = none
  gk : ∀ x kvs, M.gdc x = some kvs → ∀ (X : Cx), X.w = w → X.K = K → X.mg = mg → KTab X G x kvs
  sy : ∃ o, K.lookup sysModules = some o
  fn : ∀ (v : Nat) (V : Vr), M.pg[v]? = some V → FunD K V.nm V.nm V.args V.body V.sc [] [] (G.fa v) (fd v)
  scp : ∀ (v : Nat) (V : Vr), M.pg[v]? = some V → FnScope V.N V.ps V.sc
  mgv : ∀ (v : Nat) (V : Vr), M.pg[v]? = some V → mg V.nm = some (.ref (G.fa v))
  bnd : ∀ (v : Nat) (V : Vr), M.pg[v]? = some V → Binds K (fd v) V.ps []
  kbi : ∀ (v : Nat) (V : Vr), M.pg[v]? = some V → ∀ n ks prm, V.kw n ks = some prm → KBi K (fd v) V.ps n ks prm
  cal : ∀ (v : Nat) (V : Vr), M.pg[v]? = some V → ∀ x u, V.cal.lookup x = some u → ∃ U : Vr, M.pg[u]? = some U ∧ U.nm = x
  exc : ∀ x c, M.exc x = some c → ∀ (X : Cx), X.prog = P → X.w = w → X.K = K → X.mg = mg → X.base = base → ∀ k, ExcK X G (3 * k + 2) x c
  lam : ∀ (v : Nat) (V : Vr), M.pg[v]? = some V → V.lam = true → ∀ cdv, CodeAt K (G.fa v) (fd v) V.nm cdv → ∃ c Pt, cdv = .ref c ∧ LamX.TabB base mg c Pt ∧ (Pt, (envOfC V.nm V.sc 0 0 cdv).qual ++ "<lambda>") ∈ G.T ∧ ∀ p ∈ G.T, p.1 = Pt → p.2 = (envOfC V.nm V.sc 0 0 cdv).qual ++ "<lambda>"
/-- what must hold of what is given from outside -/
def HookOk (M : Md) (G : Gc) (P : Program) (w : World) (K : PySem.W.Frag) (mg : Str → Option Value) (base : Heap) (fd : Nat → FuncData) : Prop :=
  ∀ (k v : Nat) (V : Vr), M.pg[v]? = some V → (∀ (u : Nat) (U : Vr), M.pg[u]? = some U → FnR U.gd P w K mg base (L2.CX P w) (3 * k) (G.fa u) (fd u) U.ps (spF G U.ps.length (sem M k u))) →
    ∀ (Y : Cx) (sc : Scope) (fv : Str → Bool) (E : XK), Y.prog = P → Y.w = w → Y.K = K → Y.mg = mg → Y.base = base → Rdg0 Y G (dcOf M (sem M k) (3 * k + 2) V) sc fv E → ∀ e f, M.hook (3 * k + 2) (sem M k) V sc e = some f → PE Y e (tG G (relV G) E f)
section
variable {M : Md} {G : Gc} {P : Program} {w : World} {K : PySem.W.Frag} {mg : Str → Option Value} {base : Heap} {fd : Nat → FuncData}
theorem start_env {H : Hp} {own res : List Addr} {N : List Str} {ds : List D} {vs : List V} (r : Reps G H own res ds vs) : EnvR G H own res (L2.start N vs) (ds.map some ++ List.replicate (N.length - ds.length) none) := by
  have hl := r.length
  unfold L2.start
  refine ⟨by simp [hl], fun i d h => ?_⟩
  by_cases hi : i < ds.length
  · rw [List.getElem?_append_left (by simpa using hi)] at h
    have hd : ds[i]? = some d := by simpa using h
    obtain ⟨v, hv, rv⟩ := r.get hd
    exact ⟨v, by rw [List.getElem?_append_left (by simp; omega)]; simp [hv], rv⟩
  · rw [List.getElem?_append_right (by simp; omega), List.getElem?_replicate] at h
    split at h <;> cases h
theorem runB_ok {n : Nat} {fz : Bool} {f : Sm} {H : Hp} {own res : List Addr} {S : Sto} {N : List Str} {ds : List D} {vs : List V} {Q : VK} {E : XK} (hn : n = N.length) (w : Wd G own res S H) (r : Reps G H own res ds vs) (q : Good G (relV G) own res H Q E (runB n fz f ds S)) :
    tS G E f { nx := fun _ H' => Q .non H', rt := Q } (L2.start N vs) H := by
  subst hn
  refine ⟨own, res, S, _, w, start_env r, ?_⟩
  unfold runB at q
  have q2 : Good G (relV G) own res H Q E (match f (ds.map some ++ List.replicate (N.length - ds.length) none) S with
      | .ok (.rt d) S1 => .ok d S1
      | .ok (.nx _) S1 => .ok .non S1
      | .ok _ _ => .bad
      | .ex c as S1 => .ex c as S1
      | .bad => .bad) := by
    cases fz with
    | false => exact q
    | true => exact fzR_ok w.len q
  clear q
  cases hf : f (ds.map some ++ List.replicate (N.length - ds.length) none) S with
  | bad => rw [hf] at q2; exact q2
  | ex c as S1 => rw [hf] at q2; exact q2
  | ok fl S1 =>
    rw [hf] at q2
    cases fl with
    | rt d => exact q2
    | nx ρ => exact fun own' H' σ' g w' en => q2 own' H' .non g w' rfl
    | bk ρ => exact q2.elim
    | ct ρ => exact q2.elim
theorem lev (h : MdK M G P w K mg base fd) (hk : HookOk M G P w K mg base fd) : ∀ (k v : Nat) (V : Vr), M.pg[v]? = some V → FnR V.gd P w K mg base (L2.CX P w) (3 * k) (G.fa v) (fd v) V.ps (spF G V.ps.length (sem M k v))
  | 0, v, V, hv => ⟨fun vs H Q E z => z.1, fun A outer s H args us vs Q E _ _ _ _ _ z => by
      obtain ⟨_, own, res, S, ds, _, _, q⟩ := z
      exact q.elim⟩
  | k + 1, v, V, hv => by
    have ih := lev h hk k
    refine FnR.mono (j := 3 * k + 2 + 1) ?_ (by omega)
    refine FnR.of (h.fn v V hv) (h.scp v V hv) (fun vs H Q E z => z.1) fun cdv A outer s H vs Q E hca hr hg z => ?_
    obtain ⟨hl, own, res, S, ds, wd, rs, q⟩ := z
    have hsem : sem M (k + 1) v = (match semB M (sem M k) (3 * k + 2) V with | some f => runB V.N.length V.fz f | none => fun _ _ => .bad) := by
      show (match M.pg[v]? with | some V => (match semB M (sem M k) (3 * k + 2) V with | some f => runB V.N.length V.fz f | none => fun _ _ => .bad) | none => fun _ _ => .bad) = _
      rw [hv]
    rw [hsem] at q
    cases hb : semB M (sem M k) (3 * k + 2) V with
    | none => rw [hb] at q; exact q.elim
    | some f =>
      rw [hb] at q
      have tk : Takes (cxOf (L2.CX P w) P w K mg base V.N V.nm V.sc (G.fa v) cdv A outer s H E) (fun cls d _ H' => E cls d H') := takes_of rfl rfl rfl rfl
      refine ⟨tS G E f, (den_ok (dcOf M (sem M k) (3 * k + 2) V) M.fuel).ss (sc := V.sc) (fv := fun _ => true) ?_ hb, runB_ok rfl wd rs q⟩
      have R0 : Rdg0 (cxOf (L2.CX P w) P w K mg base V.N V.nm V.sc (G.fa v) cdv A outer s H E) G (dcOf M (sem M k) (3 * k + 2) V) V.sc (fun _ => true) E := {
        nn := rfl
        nd := (h.scp v V hv).nd
        sce := rfl
        kd := (h.scp v V hv).kind
        fve := rfl
        cm := rfl
        rm := hr
        gd := hg
        po := passes_of rfl
        ps := passes_call tk fun _ _ _ _ z => z
        pw := h.pw
        gl := h.gl
        bi := h.bi
        gk := fun x kvs hx => h.gk x kvs hx _ rfl rfl rfl
        sy := fun _ => h.sy
        fn := fun x F hF => by
          obtain ⟨u, h1, h2⟩ := Option.bind_eq_some_iff.mp hF
          obtain ⟨U, h3, rfl⟩ := Option.map_eq_some_iff.mp h2
          obtain ⟨U', h4, h5⟩ := h.cal v V hv x u h1
          rw [h3] at h4
          cases h4
          exact ⟨G.fa u, fd u, (ih u U h3).mono (by show 3 * k ≤ 3 * k + 2; omega), by rw [← h5]; exact h.mgv u U h3, (h.fn u U h3).kp, h.bnd u U h3, h.kbi u U h3⟩
        tk := tk
        xl := h.xl
        lt := fun z => h.lam v V hv z cdv hca }
      exact { R0 with ex := fun x c hc => h.exc x c hc _ rfl rfl rfl rfl rfl k, hk := fun Y sc' fv' E' s R => hk k v V hv ih Y sc' fv' E' s.prog s.w s.K s.mg s.base R }
end
end Ev
namespace Ev
open L2 PySem PySem.Spec PyProof.Rows

/-! ## try, several clauses 'except C as n' -/
abbrev Cl : Type := Value × Nat × (Addr → Value → Option Addr → TS)
/-- the ends of a clause's suite: its name is gone behind it -/
def goneE (i : Nat) (D : Ends) : Ends := { nx := fun z y => D.nx (z.set i none) y, rt := D.rt, bk := fun z y => D.bk (z.set i none) y, ct := fun z y => D.ct (z.set i none) y }
def wCl (K : PySem.W.Frag) (out : WX) (D : Ends) : List Cl → WX
  | [] => out
  | q :: r => fun cls d z y => ∃ t, PySem.W.exmOne K cls q.1 = some t ∧ (t = true → ∀ ea, y ea = none → q.2.2 ea cls d (goneE q.2.1 D) (z.set q.2.1 (some (.ref ea))) y) ∧ (t = false → wCl K out D r cls d z y)
inductive ClsOk (X : Cx) : List ExceptHandler → List Cl → Prop
  | nil : ClsOk X [] []
  | cons {x n : Str} {c : Value} {i : Nat} {ts : Addr → Value → Option Addr → TS} {st : Stmt} {sts : List Stmt} {p1 p2 : Pos} {hs : List ExceptHandler} {l : List Cl} (nm : Names X x c) (at_ : X.N[i]? = some n) (lo : X.env.kindOf n = some .local)
      (su : ∀ (ea : Addr) (oe : Obj) (cls : Value) (d : Option Addr) (pn : List (Addr × Obj)), Zc cls d oe → (∃ vs, oe.data = .fields vs) → PSs (X.suite ea ((ea, oe) :: pn)) (st :: sts) (ts ea cls d)) (r : ClsOk X hs l) :
      ClsOk X (.ExceptHandler (some (.Name x p1)) (some n) (st :: sts) p2 :: hs) ((c, i, ts) :: l)
section
variable {X : Cx} {body : List Stmt} {h1 : ExceptHandler} {hs : List ExceptHandler} {l : List Cl} {pos : Pos} {tb : WX → TS} {out : WX}
theorem ps_tryC (stk : X.stack = X.env :: X.outer) (frm : X.env.frame = some X.env.locals) (nd : X.N.Nodup) (tk : Takes X out)
    (hb : ∀ (W : WX) (pn : List (Addr × Obj)) (xe : Value → Shared → Prop), Takes (X.tr pn xe) W → PassesOwn (model X.prog X.w) X.A X.env xe → PSs (X.tr pn xe) body (tb W)) (hh : ClsOk X (h1 :: hs) l) :
    PS X (.Try body (h1 :: hs) [] [] pos) (fun D σ H => tb (wCl X.K out D l) D σ H) := by
  refine ⟨fun pins s σ H D I h => ?_⟩
  have okk := I.ok
  have fr0 : X.A.frames = some (X.env :: X.outer) := okk.frames.trans (by rw [stk])
  refine wpAny_Try_except ?_
  refine wpAny_mono ((hb (wCl X.K out D l) (X.pn ++ pins) (fun er sa => wpAny (model X.prog X.w) X.A (noteFrame er X.env) (fun _ sb => wpAny (model X.prog X.w) X.A (setFlight er none) (fun _ sc =>
    wpAny (model X.prog X.w) X.A (handleBy er X.env (h1 :: hs)) (SP X pins D) X.xe sc) X.xe sb) X.xe sa) (fun u sx air => ?_) PassesOwn.looking).run [] s σ H D (I.toTry _) h) (fun f sx hsp => ?_) (fun _ _ z => z)
  · obtain ⟨ea, B, sI, pins2, σ2, H2, cls, d, rfl, Jt, nb, up, sky, na, eos, ags, wsh⟩ := air
    have Jn : Inv X pins σ2 H2 sI := Jt.ofTry okk
    have sky2 : Sky B (X.env :: X.outer) ea (Zc cls d) X.env.locals sx.heap := by rw [← stk]; exact sky
    show wpAny (model X.prog X.w) X.A (noteFrame (.ref ea) X.env) _ _ _
    refine Sky.land Zc.steady fr0 frm sky2 fun hc flc upc => ?_
    have Jc : Inv X pins σ2 H2 { sx with heap := hc } := Jn.landed nb flc.1 (up.trans upc) eos ags
    obtain ⟨oc, vc, gc, zc, dc⟩ := flc.there
    have out1 : ea ∉ frs (X.env :: X.outer) := fun hm => by
      obtain ⟨_, o2, e2, nf⟩ := flc.2.2.1.mem hm
      rw [gc] at e2
      cases e2
      exact nf _ dc
    have neL : ea ≠ X.env.locals := fun z => out1 (List.mem_filterMap.mpr ⟨X.env, List.mem_cons_self, by rw [frm, z]⟩)
    have neF : ea ∉ X.fs := fun hm => by
      obtain ⟨ev, he, q⟩ := List.mem_filterMap.mp hm
      exact out1 (List.mem_filterMap.mpr ⟨ev, List.mem_cons_of_mem _ he, q⟩)
    have Sc := Jc.suite gc dc na neL neF
    have walk : ∀ {hl : List ExceptHandler} {ll : List Cl}, ClsOk X hl ll → wCl X.K out D ll cls d σ2 H2 → wpAny (model X.prog X.w) X.A (handleBy (.ref ea) X.env hl) (SP X pins D) X.xe { sx with heap := hc } := by
      intro hl ll hk
      induction hk with
      | nil =>
        intro wsh
        refine wpAny_handleBy_nil ?_
        obtain ⟨y1, y2, y3, oe, ve, Tb, oT, ts2, he, hz, hd, hv, hr⟩ := id flc
        unfold PySem.passOn
        refine wpAny_bind (wpAny_field he hd hv ?_)
        rw [if_neg (show ¬ ((Value.ref Tb == Value.none) = true) from by simp)]
        have last : wpAny (model X.prog X.w) X.A (setFlight (.ref ea) X.env.frame) (fun _ sd => wpAny (model X.prog X.w) X.A (throw (.ref ea) : Sem Flow) (SP X pins D) X.xe sd) X.xe { sx with heap := hc } := by
          rw [frm]
          refine HandSPX.setFlight_upZ flc fun hd4 held up4 => wpAny_throw (tk _ _ ?_)
          exact ⟨ea, B, sI, pins, σ2, H2, cls, d, rfl, Jn, nb, (up.trans upc).trans up4, .inr (.inr (by rw [stk]; exact held)), na, eos, ags, wsh⟩
        first
          | exact wpAny_bind (wpAny_pure (wpAny_bind last))
          | exact wpAny_bind last
      | @cons x n c i ts st sts p1 p2 hs2 l2 nm at_ lo su r ih =>
        intro wsh
        obtain ⟨t, ht, yes1, no1⟩ := wsh
        refine wpAny_handleBy_cons (codeAny_handlers_test ?_) (by intro q; cases q)
        have lt : PySem.W.Looks (model X.prog X.w) hc (typeOf (.ref ea)) cls := fun A Q E s k q => wpAny_typeOf_ref (k _ _ gc) (by rw [zc.1]; exact q)
        have lm := PySem.W.exm_one (M := model X.prog X.w) (Jc.kIn) lt ht
        have nmd : ∀ {Q : Value → Shared → Prop} {E : Value → Shared → Prop}, Q c { sx with heap := hc } → wpAny (model X.prog X.w) (X.A.mark (some (.ref ea))) (eval (.Name x p1) X.env) Q E { sx with heap := hc } := fun {Q E} q => by
          obtain ⟨hg, hdb, hm | ⟨hm, hv, hn⟩⟩ := nm
          · exact ld_glob (X := X.suite ea ((ea, oc) :: (X.pn ++ pins))) Sc hg hm q hdb
          · exact ld_blt (X := X.suite ea ((ea, oc) :: (X.pn ++ pins))) Sc hg hm hv q hn hdb
        refine nmd (lm.here ?_)
        cases t with
        | true =>
          refine codeAny_handlers_suite_as ?_
          refine HandSPX.lands_againZ flc fun he fle upe => ?_
          have Je : Inv X pins σ2 H2 { sx with heap := he } := Jn.landed nb fle.1 ((up.trans upc).trans upe) eos ags
          obtain ⟨oe, ve, ge, ze, de⟩ := fle.there
          have Se := Je.suite ge de na neL neF
          refine store_ok (X := X.suite ea ((ea, oe) :: (X.pn ++ pins))) (v := .ref ea) Se nd at_ (.inl lo) rfl (fun s5 S5 => ?_) (.inr lo)
          refine wpAny_mono ((su ea oe cls d (X.pn ++ pins) ze ⟨_, de⟩).run [] s5 _ H2 _ S5 (yes1 rfl ea na)) (fun f s6 hsp => ?_) (fun _ _ z => False.elim z)
          have behind : ∀ {σ6 : L2.St} {H6 : Hp} {Q : Shared → Prop}, Inv (X.suite ea ((ea, oe) :: (X.pn ++ pins))) [] σ6 H6 s6 → (∀ s7, Inv X pins (σ6.set i none) H6 s7 → Q s7) →
              wpAny (model X.prog X.w) X.A (do bindName X.env n .none; unbindBehindTheSuite X.env n p2) (fun _ s7 => Q s7) X.xe s6 := fun {σ6 H6 Q} S6 hq => gone_ok (S6.unsuite okk) nd at_ lo hq
          cases f with
          | next =>
            obtain ⟨z6, y6, S6, q6⟩ := hsp
            exact behind S6 fun s7 J7 => ⟨_, _, J7, q6⟩
          | brk =>
            obtain ⟨z6, y6, S6, q6⟩ := hsp
            exact behind S6 fun s7 J7 => ⟨_, _, J7, q6⟩
          | cont =>
            obtain ⟨z6, y6, S6, q6⟩ := hsp
            exact behind S6 fun s7 J7 => ⟨_, _, J7, q6⟩
          | ret u =>
            obtain ⟨v6, z6, y6, S6, r6, q6⟩ := hsp
            exact behind S6 fun s7 J7 => ⟨_, _, _, J7, r6, q6⟩
        | false =>
          show wpAny _ X.A (handleBy (.ref ea) X.env hs2) _ _ _
          exact ih (no1 rfl)
    exact walk hh wsh
  · cases f with
    | next =>
      obtain ⟨z6, y6, J6, q6⟩ := hsp
      exact wpAny_execs_nil ⟨z6, y6, J6.ofTry okk, q6⟩
    | brk =>
      obtain ⟨z6, y6, J6, q6⟩ := hsp
      exact ⟨z6, y6, J6.ofTry okk, q6⟩
    | cont =>
      obtain ⟨z6, y6, J6, q6⟩ := hsp
      exact ⟨z6, y6, J6.ofTry okk, q6⟩
    | ret u =>
      obtain ⟨v6, z6, y6, J6, r6, q6⟩ := hsp
      exact ⟨v6, z6, y6, J6.ofTry okk, r6, q6⟩
end
end Ev
namespace Ev
open L2 PySem PySem.Spec PyProof.Rows

/-! ## f(lambda: e), where f tells what e answers or how it ended -/
/-- a clause: the class's name, its number, the tag, the field's name, its place -/
structure Hd where
  cn : Str
  c : Nat
  tag : Str
  fld : Str
  i : Nat
def metX (cs : List Hd) (told : Str) (f : Ex) : Ex := fun ρ S => match f ρ S with
  | .ok d S1 => .ok (.lst [.str told, d]) S1
  | .ex c as S1 => match cs.find? fun h => h.c == c with
    | some h => match as[h.i]? with
      | some a => .ok (.lst [.str h.tag, a]) S1
      | none => .bad
    | none => .bad
  | .bad => .bad
/-- the body of such a def -/
def metBody (a told n : Str) (p1 p2 p3 p4 p5 p6 : Pos) (k1 : Nat) (hds : List ExceptHandler) : List Stmt := [.Try [.Return (some (.List [.Constant (.str told) k1 p1, .Call (.Name a p2) [] [] p3] p4)) p5] hds [] [] p6]
/-- a clause as it is written -/
inductive HdE (n : Str) : ExceptHandler → Hd → Prop
  | mk (h : Hd) (p1 p2 p3 p4 p5 p6 p7 : Pos) (k : Nat) : HdE n (.ExceptHandler (some (.Name h.cn p1)) (some n) [.Return (some (.List [.Constant (.str h.tag) k p2, .Attribute (.Name n p3) h.fld p4] p5)) p6] p7) h
/-- what must be known of the classes -/
structure HdK (K : PySem.W.Frag) (mg : Str → Option Value) (G : Gc) (sg : Scope) (cs : List Hd) (h : Hd) : Prop where
  gl : sg.names.lookup h.cn = some .globalImplicit
  db : (h.cn == ("__debug__" : Str)) = false
  mg : mg h.cn = some (.ref (G.ca h.c))
  xf : XfC K (G.ca h.c)
  no : PySem.W.findIn K (.ref (G.ca h.c)) h.fld = some none
  fl : (G.xf h.c)[h.i]? = some h.fld
  ex : ∀ h', h' ∈ cs → PySem.W.exmOne K (.ref (G.ca h'.c)) (.ref (G.ca h.c)) = some (h'.c == h.c)
section
variable {X : Cx} {G : Gc} {own res : List Addr} {S : Sto} {H : Hp} {E : XK} {Q : VK}
/-- the reading of a clause's suite -/
def tClause (h : Hd) (C : Addr) (i : Nat) : Addr → Value → Option Addr → TS := fun ea cls d => tRet (tLst (tCons (tC (.str h.tag)) (tCons (tXf ea cls d C h.fld (tVar i)) tNil)))
def clsOf (G : Gc) (i : Nat) (cs : List Hd) : List Cl := cs.map fun h => (.ref (G.ca h.c), i, tClause h (G.ca h.c) i)
theorem cls_ok {Y : Cx} {sg : Scope} {n : Str} {i : Nat} {cs : List Hd} (hsc : Y.env.scope = sg) (hn : Y.N[i]? = some n) (hl : sg.names.lookup n = some .local) (hnd : (n == ("__debug__" : Str)) = false) (hcd : (n == ("__classdict__" : Str)) = false) : ∀ {hds : List ExceptHandler} {hs : List Hd}, Paired (HdE n) hds hs → (∀ h, h ∈ hs → HdK Y.K Y.mg G sg cs h) →
    ClsOk Y hds (clsOf G i hs)
  | _, _, .nil, _ => .nil
  | _, _, .cons (b := h) e t, hk => by
    have k := hk h List.mem_cons_self
    cases e with
    | mk h p1 p2 p3 p4 p5 p6 p7 j =>
      refine .cons ⟨by show Y.env.scope.names.lookup _ = _; rw [hsc]; exact k.gl, k.db, .inl k.mg⟩ hn (by show Y.env.scope.names.lookup _ = _; rw [hsc]; exact hl) (fun ea oe cls d pn hz hf => ?_) (cls_ok hsc hn hl hnd hcd t fun h' hh => hk h' (List.mem_cons_of_mem _ hh))
      refine pss_one (ps_ret (pe_lst (pa_cons pe_str (pa_cons (pe_xf k.xf k.no hz hf (pe_var (i := i) hn (by rw [show (Y.suite ea ((ea, oe) :: pn)).env.scope = sg from hsc]; exact .inl hl) hnd hcd)) pa_nil))))
/-- an error that comes out of the thunk is told -/
theorem met_wish {i : Nat} {c : Nat} {as : List D} {cls : Value} {dx : Option Addr} {D0 : Ends} {z : L2.St} (K : PySem.W.Frag) {h : Hd} {a : D} (hz : i < z.length) (hx : ExR G c as cls dx H own res) (w : Wd G own res S H)
    (ha : as[h.i]? = some a) (hc : h.c = c) (q : Good G (relV G) own res H D0.rt E (.ok (.lst [.str h.tag, a]) S)) : ∀ (hs : List Hd), (∀ h', h' ∈ hs → ((G.xf h'.c)[h'.i]? = some h'.fld) ∧ PySem.W.exmOne K (.ref (G.ca c)) (.ref (G.ca h'.c)) = some (c == h'.c)) → hs.find? (fun h' => h'.c == c) = some h →
      wCl K (fun _ _ _ _ => False) D0 (clsOf G i hs) cls dx z H
  | [], _, hf => by cases hf
  | h' :: hs, hk, hf => by
    obtain ⟨k1, k2⟩ := hk h' List.mem_cons_self
    obtain ⟨rfl, d, fs, rfl, h1, h2, h3⟩ := hx
    refine ⟨c == h'.c, k2, fun ht ea hea => ?_, fun ht => ?_⟩
    · have e1 : h'.c = c := by
        have : c = h'.c := by simpa using ht
        exact this.symm
      have e2 : h' = h := by
        rw [List.find?_cons, show (h'.c == c) = true by simpa using e1] at hf
        exact Option.some.inj hf
      subst e2
      obtain ⟨v, l1, l2⟩ := h3 h'.i h'.fld a (by rw [← e1]; exact k1) ha
      refine ⟨.ref ea, by rw [List.getElem?_set_self hz], rfl, by rw [e1], d, fs, v, rfl, h1, l1, ?_, fun p hp => ?_⟩
      · show 2 ≤ sizeLine
        decide
      · exact new_lst w (Reps.cons (d := .str h'.tag) (v := .str h'.tag) rfl (Reps.one l2)) q hp
    · refine met_wish K hz ⟨rfl, d, fs, rfl, h1, h2, h3⟩ w ha hc q hs (fun h'' hh => hk h'' (List.mem_cons_of_mem _ hh)) ?_
      have e1 : (h'.c == c) = false := by
        have : ¬ c = h'.c := by simpa using ht
        simpa using fun e => this e.symm
      rw [List.find?_cons, e1] at hf
      exact hf
/-- what the def makes of the thunk -/
def TTm (K : PySem.W.Frag) (G : Gc) (Ng : List Str) (i : Nat) (cs : List Hd) (told : Str) : (XK → Hp → VK → Prop) → Hp → VK → Prop := fun tl H Q =>
  ∃ Ech : XK, (∀ cls d H' (z : L2.St), Ech cls d H' → z.length = Ng.length → wCl K (fun _ _ _ _ => False) { nx := fun _ H' => Q .non H', rt := Q } (clsOf G i cs) cls d z H') ∧ tl Ech H (fun x H1 => 2 ≤ sizeLine ∧ ∀ p, H1 p = none → Q (.ref p) (upd H1 p (.lst [.str told, x])))
theorem met_gives {Ng : List Str} {x a n q told : Str} {sg : Scope} {g : Addr} {cdg : Value} {i k1 : Nat} {p1 p2 p3 p4 p5 : Pos} {h1 : ExceptHandler} {hds : List ExceptHandler} {cs : List Hd} (hN : Ng.Nodup) (hn : Ng[i]? = some n) (hl : sg.names.lookup n = some .local) (hnd : (n == ("__debug__" : Str)) = false)
    (hcd : (n == ("__classdict__" : Str)) = false) (hp : Paired (HdE n) (h1 :: hds) cs) (hk : ∀ h, h ∈ cs → HdK X.K X.mg G sg cs h) (h0 : ∀ f : Addr, (L2.start Ng [V.ref f])[0]? = some (some (V.ref f))) :
    LamX.GivesTo X Ng x sg g cdg (metBody a told n p1 p2 p3 p4 p5 p6 k1 (h1 :: hds)) a q (TTm X.K G Ng i cs told) := by
  intro f c' s H Q tl act hc h
  obtain ⟨Ech, hE, htl⟩ := h
  refine ⟨_, pss_one (ps_tryC (X := (cxOf C8.CX0 X.prog X.w X.K X.mg X.base Ng x sg g cdg X.A X.stack s H C8.E0).nox) (out := fun _ _ _ _ => False)
    (tb := fun W D σ H => ∃ Ech : XK, (∀ cls d (z : L2.St) H', Ech cls d H' → z.length = Ng.length → W cls d z H') ∧ σ[0]? = some (some (.ref f)) ∧ H c' = some (LamX.CodeO c' q) ∧ tl Ech H (fun x H1 => 2 ≤ sizeLine ∧ ∀ p, H1 p = none → D.rt (.ref p) (upd H1 p (.lst [.str told, x]))))
    rfl rfl hN takes_none5 (fun W pn xe tk _ => ?_) (cls_ok (sg := sg) rfl hn hl hnd hcd hp hk)), ?_⟩
  · refine ⟨fun pins s' σ H' D I h' => ?_⟩
    obtain ⟨E2, hW, q1, q2, q3⟩ := h'
    have tk2 : Takes ((cxOf C8.CX0 X.prog X.w X.K X.mg X.base Ng x sg g cdg X.A X.stack s H C8.E0).tr pn xe) (fun cls d z H' => z.length = Ng.length → W cls d z H') := fun u s2 air => by
      obtain ⟨ea, B, sI, pp, z, y, cls, d, e1, J, e2, e3, e4, e5, e6, e7, wsh⟩ := air
      exact tk u s2 ⟨ea, B, sI, pp, z, y, cls, d, e1, J, e2, e3, e4, e5, e6, e7, wsh J.len⟩
    have hp := act _ pn xe E2 p2 p3 tk2 fun cls d z y he hl => hW cls d z y he hl
    exact (pss_one (ps_ret (pos := p5) (pe_lst (pos := p4) (pa_cons (pe_str (x := told) (j := k1) (pos := p1)) (pa_cons hp pa_nil))))).run pins s' σ H' D I ⟨q1, q2, q3⟩
  · exact ⟨Ech, fun cls d z H' he hl => hE cls d H' z he hl, h0 f, hc, htl⟩
end
/-! ## the call -/
/-- where a thunk is read: no lambda, no raise, no repr within it -/
def thC (C : DC) (k : Nat) : DC := { C with gd := false, lam := false, hook := fun _ _ => none, exc := fun _ => none, k := k }
def metHook (M : Md) (mn told : Str) (cs : List Hd) : Nat → (Nat → Fn) → Vr → Scope → Expr → Option Ex := fun k cal V sc e => match e with
  | .Call (.Name x _) [.Lambda ⟨[], [], none, [], [], none, []⟩ body scope _] [] _ => if x = mn ∧ V.lam = true ∧ sc.names.lookup x = some .globalImplicit ∧ LamX.lamSB sc scope = true then
      ((den (thC (dcOf M cal k V) (k - 2)) M.fuel).e scope (fun _ => false) body).map (metX cs told) else none
  | _ => none
/-- the def that gets the thunk, behind the top -/
structure MetK (M : Md) (G : Gc) (K : PySem.W.Frag) (mg : Str → Option Value) (mn a told n : Str) (i : Nat) (cs : List Hd) (Ng : List Str) (sg : Scope) (ma : Arguments) (mb : List Stmt) (g : Addr) (fdm : FuncData) : Prop where
  fn : FunD K mn mn ma mb sg [] [] g fdm
  mgm : mg mn = some (.ref g)
  bnd : Binds K fdm [a] []
  scp : FnScope Ng [a] sg
  n0 : Ng[0]? = some a
  va : Vis sg a
  nN : Ng[i]? = some n
  nl : sg.names.lookup n = some .local
  hk : ∀ h, h ∈ cs → HdK K mg G sg cs h
  ok : okN a = true ∧ okN n = true ∧ okN mn = true
  mb : ∃ p1 p2 p3 p4 p5 p6 k1 h1 hds, mb = metBody a told n p1 p2 p3 p4 p5 p6 k1 (h1 :: hds) ∧ Paired (HdE n) (h1 :: hds) cs
section
variable {M0 : Md} {G : Gc} {P : Program} {w : World} {K : PySem.W.Frag} {mg : Str → Option Value} {base : Heap} {fd : Nat → FuncData} {H H1 : Hp} {own res : List Addr} {S : Sto}
theorem Grow.extN (e : LamX.ExtN H H1) : Grow own H own H1 := ⟨⟨[], by simp⟩, fun a o h _ t => e a o h t, fun a h n => absurd h n⟩
theorem Wd.extN (w : Wd G own res S H) (e : LamX.ExtN H H1) (t : LamX.Tabs G.T H1) : Wd G own res S H1 := by
  refine ⟨w.len, w.nod, w.dis, fun k o a h1 h2 => ?_, fun a h => ?_, t⟩
  · have cc := w.cell k o a h1 h2
    obtain ⟨u, hu, nt⟩ := cc.there
    exact cc.mono (fun a o eb _ _ t => e a o eb t) (fun a o _ n _ _ => n) (fun a z => .inl z) (fun i a z => z) (by rw [hu]; exact e a u hu nt)
  · obtain ⟨u, h1, h2⟩ := w.rest a h
    exact ⟨u, e a u h1 h2, h2⟩
theorem t_met {E : XK} {Ng : List Str} {i : Nat} {cs : List Hd} {told : Str} {fe : Ex} {σ : L2.St} {Q : VK} {mgx : Str → Option Value} {sg : Scope} (hi : i < Ng.length) (hk : ∀ h, h ∈ cs → HdK K mgx G sg cs h) (h : tG G (relV G) E (metX cs told fe) σ H Q) :
    LamX.tLam G.T (TTm K G Ng i cs told) (fun E' => tG G (relV G) E' fe) σ H Q := by
  obtain ⟨own, res, S, ρ, w, en, q⟩ := h
  refine ⟨w.tabs, fun H1 eN T1 => ?_⟩
  have g1 : Grow own H own H1 := Grow.extN eN
  have w1 := w.extN eN T1
  have q1 := Good.grow g1 q
  unfold metX at q1
  refine ⟨fun cls d H' => ∀ (z : L2.St), z.length = Ng.length → wCl K (fun _ _ _ _ => False) { nx := fun _ H' => Q .non H', rt := Q } (clsOf G i cs) cls d z H', fun cls d H' z he hl => he z hl, own, res, S, ρ, w1, en.grow g1, ?_⟩
  cases hf : fe ρ S with
  | bad => rw [hf] at q1; exact q1
  | ok d S1 =>
    rw [hf] at q1
    intro o2 H2 x g2 w2 r2
    refine ⟨by decide, fun p hp => ?_⟩
    exact new_lst w2 (Reps.cons (d := .str told) (v := .str told) rfl (Reps.one r2)) (Good.grow g2 q1) hp
  | ex c as S1 =>
    rw [hf] at q1
    dsimp only at q1
    intro o2 H2 cls dx g2 w2 r2 z hz
    split at q1
    · rename_i hd hfd
      split at q1
      · rename_i a ha
        have hm := List.mem_of_find?_eq_some hfd
        have hc : hd.c = c := by simpa using List.find?_some hfd
        exact met_wish K (by omega) r2 w2 ha hc (Good.grow g2 q1) cs (fun h' hh => ⟨(hk h' hh).fl, by rw [← hc]; exact (hk h' hh).ex hd hm⟩) hfd
      · exact q1.elim
    · exact q1.elim
theorem metHook_at {mn told : Str} {cs : List Hd} {k : Nat} {cal : Nat → Fn} {V : Vr} {sc : Scope} {e : Expr} {f : Ex} (h : metHook M0 mn told cs k cal V sc e = some f) : ∃ px body scope lp pos fe, e = .Call (.Name mn px) [.Lambda ⟨[], [], none, [], [], none, []⟩ body scope lp] [] pos ∧ V.lam = true ∧
    sc.names.lookup mn = some .globalImplicit ∧ LamX.lamSB sc scope = true ∧ (den (thC (dcOf M0 cal k V) (k - 2)) M0.fuel).e scope (fun _ => false) body = some fe ∧ f = metX cs told fe := by
  unfold metHook at h
  split at h
  · rename_i x px body scope lp pos
    split at h
    · rename_i hc
      obtain ⟨rfl, h1, h2, h3⟩ := hc
      obtain ⟨fe, h4, rfl⟩ := Option.map_eq_some_iff.mp h
      exact ⟨px, body, scope, lp, pos, fe, rfl, h1, h2, h3, h4, rfl⟩
    · cases h
  · cases h
theorem metHook_ok {mn a told n : Str} {i : Nat} {cs : List Hd} {Ng : List Str} {sg : Scope} {ma : Arguments} {mb : List Stmt} {g : Addr} {fdm : FuncData} (hM : MetK M0 G K mg mn a told n i cs Ng sg ma mb g fdm) (h0 : MdK { M0 with hook := metHook M0 mn told cs } G P w K mg base fd) :
    HookOk { M0 with hook := metHook M0 mn told cs } G P w K mg base fd := by
  intro k v V hv ih Y sc fv E e1 e2 e3 e4 e5 R e f hf
  subst e1 e2 e3 e4 e5
  have hf : metHook M0 mn told cs (3 * k + 2) (sem { M0 with hook := metHook M0 mn told cs } k) V sc e = some f := hf
  obtain ⟨px, body, scope, lp, pos, fe, rfl, hlam, hg, hls, hfe, rfl⟩ := metHook_at hf
  obtain ⟨c, Pt, hcode, TB, hmT, hu⟩ := R.lt hlam
  obtain ⟨oc, od, dV, kV, doc, pm, an, cdv, ct, osl, rfl, lk, hcd, _, _⟩ := hM.fn.ex
  obtain ⟨p1, p2, p3, p4, p5, p6, k1, h1, hds, rfl, hp⟩ := hM.mb
  have ha := okN_at hM.ok.1
  have hn := okN_at hM.ok.2.1
  have hls2 : LamX.lamSB Y.env.scope scope = true := by rw [R.sce]; exact hls
  have L := LamX.lamS_by hls2
  have hNi : i < Ng.length := (List.getElem?_eq_some_iff.mp hM.nN).1
  have pe : PE Y (.Call (.Name mn px) [.Lambda ⟨[], [], none, [], [], none, []⟩ body scope lp] [] pos) (LamX.tLam G.T (TTm Y.K G Ng i cs told) (fun E' => tG G (relV G) E' fe)) := by
    refine LamX.pe_lamcall (k := 3 * k) (Ng := Ng) (a := a) (c := c) (P := Pt) (show Y.env.scope.names.lookup mn = _ by rw [R.sce]; exact hg) hM.mgm hM.fn.kp lk hcd hM.bnd hM.scp hM.n0 hM.va
      (met_gives hM.scp.nd hM.nN hM.nl hn.1 hn.2 hp hM.hk (fun f => by rfl)) TB hcode hmT hu R.rm L rfl (fun q cl pm cv ctv => rfl) (fun A outer s H E' f c' hr => ?_) (okN_at hM.ok.2.2).1 ha.1 ha.2
    have tk : Takes (LamX.lamCx Y A outer s H E' scope f c') (fun cls d _ H' => E' cls d H') := takes_of rfl rfl rfl rfl
    have R0 : Rdg0 (LamX.lamCx Y A outer s H E' scope f c') G (thC (dcOf M0 (sem { M0 with hook := metHook M0 mn told cs } k) (3 * k + 2) V) (3 * k + 2 - 2)) scope (fun _ => false) E' := {
      nn := R.nn
      nd := R.nd
      sce := rfl
      kd := L.kind
      fve := rfl
      cm := rfl
      rm := by
        show Room (3 * k + 2 - 2) _
        rw [Nat.add_sub_cancel]
        exact hr
      gd := fun z => by cases z
      po := passes_of rfl
      ps := passes_call tk fun _ _ _ _ z => z
      pw := R.pw
      gl := R.gl
      bi := R.bi
      gk := R.gk
      sy := fun z => by cases z
      fn := fun y F hF => by
        obtain ⟨u, q1, q2⟩ := Option.bind_eq_some_iff.mp hF
        obtain ⟨U, q3, rfl⟩ := Option.map_eq_some_iff.mp q2
        obtain ⟨U', q4, q5⟩ := h0.cal v V hv y u q1
        have q4 : M0.pg[u]? = some U' := q4
        rw [q3] at q4
        cases q4
        exact ⟨G.fa u, fd u, (ih u U q3).mono (by show 3 * k ≤ 3 * k + 2 - 2; omega), by rw [← q5]; exact h0.mgv u U q3, (h0.fn u U q3).kp, h0.bnd u U q3, h0.kbi u U q3⟩
      tk := tk
      xl := R.xl
      lt := fun z => by cases z }
    exact (den_ok (thC (dcOf M0 (sem { M0 with hook := metHook M0 mn told cs } k) (3 * k + 2) V) (3 * k + 2 - 2)) M0.fuel).e (sc := scope) (fv := fun _ => false) { R0 with ex := fun y c0 z => (by cases z), hk := fun _ _ _ _ _ _ e0 f0 z => (by cases z) } hfe
  exact pe_imp pe fun σ H Q q => t_met hNi hM.hk q
end
end Ev
namespace Ev
open L2 PySem PySem.Spec PyProof.Rows

/-! ## an own exception whose __init__ says super().__init__(x) and keeps x -/
/-- the text of such an __init__ -/
structure XcB (f : Str) (params : Arguments) (body : List Stmt) (scope : Scope) : Prop where
  ex : ∃ (sf a : Str) (p0 p1 p2 p3 p4 p5 p6 p7 p8 p9 : Pos) (ar : Arg),
    body = [.Expr (.Call (.Attribute (.Call (.Name "super" p0) [] [] p1) "__init__" p2) [.Name a p3] [] p4) p5, .Assign [.Attribute (.Name sf p6) f p7] (.Name a p8) p9] ∧
    (params.posonlyargs ++ params.args).head? = some ar ∧ ar.arg = sf ∧ a ≠ sf ∧ scope.names.lookup sf = some .local ∧ scope.names.lookup a = some .local ∧ (sf == ("__debug__" : Str)) = false ∧ (a == ("__debug__" : Str)) = false ∧ (p2.endLine == p4.line) = true ∧
    ∀ (nm qual : Str) (kV doc pm cdv ct : Value) (an : Option Addr) (cc : Addr) (u0 u1 : Value), bindArgs (PySem.W.ksFn nm qual params body scope .none kV doc pm an cdv ct cc) ⟨[u0, u1], []⟩ = pure [(sf, u0), (a, u1)]
  sup : scope.names.lookup ("super" : Str) = some .globalImplicit
  cls : scope.names.lookup ("__class__" : Str) = some .free
  noc : ∀ x ∈ scope.names, x.2 ≠ .cell
  kind : scope.kind = .function
  co : scope.isCoroutine = false
  gen : scope.isGenerator = false
abbrev veT : List Value := [.type "ValueError", .type "Exception", .type "BaseException", .type "object"]
/-- the class at C, U: what is written of it -/
structure XcS (P : Program) (U : PySem.W.Frag) (C : Addr) (f : Str) : Prop where
  ob : ∃ nm q N bs bm sn sub ab col dd k0 k1 k2 k3 k5, U.lookup C = some (excClassObj nm q C N bs bm true sn sub ab col dd k0 k1 k2 k3 k5 "ValueError.__new__") ∧ PySem.HandSPX.refsVE bm = true
  sa : PySem.W.findIn U (.ref C) "__setattr__" = some (some (.builtin "object.__setattr__"))
  ve : PySem.W.subIn U (.ref C) (.type "ValueError") = some true
  nof : PySem.W.findIn U (.ref C) f = some none
  sup : PySem.W.ks_superIn U C C "__init__" = some (some (.builtin "ValueError.__init__"))
  ini : PySem.W.excInitIn U C veT "ValueError.__new__" = true
  opq : PySem.W.nsIn U PySem.cStatics "thirdparty.any" = some none
  fn : ∃ fI cc cda nm qual params body scope kV doc pm an ct oc od osl, PySem.W.findIn U (.ref C) "__init__" = some (some (.ref fI)) ∧ PySem.W.typeIn U (.ref fI) = some (.type "function") ∧
    U.lookup fI = some ⟨oc, od, .func (PySem.W.ksFn nm qual params body scope .none kV doc pm an (.ref cda) ct cc), osl⟩ ∧ PySem.W.codeIn U (.ref cda) qual = true ∧
    (∃ ccl cdd vs ccs file tf, U.lookup cda = some ⟨ccl, cdd, .fields vs, ccs⟩ ∧ vs[2]? = some (.str file tf) ∧ ((P.main.file : Str) == file) = true) ∧
    (∃ cl cld csl, U.lookup cc = some ⟨cl, cld, .cell (some (.ref C)), csl⟩) ∧ XcB f params body scope
  top : (P.main.scope.names.lookup ("super" : Str)).isSome = false

theorem ev_mth {o : Expr} {x a : Str} {env : PySem.Env} {p2 p3 p4 : Pos} (h : (p2.endLine == p4.line) = true) : eval (.Call (.Attribute o x p2) [.Name a p3] [] p4) env = (do
    let ov ← attributeBase o x env (eval o env)
    standAt p2.atName
    let (f, first) ← holding [ov] (getMethod ov x (do return (← importBound o env).getD true))
    callWith p4 f first (backTo p4 (starEach [.Name a p3] env)) []) := by
  show (do
    let ov ← attributeBase o x env (eval o env)
    standAt p2.atName
    methodCall o x p2 p4 env ov 1 (backTo p4 (starEach [.Name a p3] env)) []) = _
  have e : ∀ ov, methodCall o x p2 p4 env ov 1 (backTo p4 (starEach [.Name a p3] env)) [] = (do
    let (f, first) ← holding [ov] (getMethod ov x (do return (← importBound o env).getD true))
    callWith p4 f first (backTo p4 (starEach [.Name a p3] env)) []) := fun ov => by
    unfold methodCall methodCallPos
    rw [h, Bool.or_true]
    rfl
  simp only [e]
section
variable {P : Program} {w : World} {U K : PySem.W.Frag} {mg : Str → Option Value} {base : Heap} {C : Addr} {f : Str}
theorem XcS.cl (S : XcS P U C f) : ∃ cd, PySem.W.clsIn U C = some cd ∧ PySem.HandSPX.refsVE cd.mro = true ∧ cd.hasDict = true ∧ PySem.W.mroIn U C (.ref C) = some true := by
  obtain ⟨nm, q, N, bs, bm, sn, sub, ab, col, dd, k0, k1, k2, k3, k5, hC, hbm⟩ := S.ob
  refine ⟨{ name := nm, bases := bs, mro := .ref C :: bm, ns := N, qualname := q, hasDict := true, slotNames := sn, subclasses := sub, abstract := ab, collection := col, hasDel := false }, ?_, hbm, rfl, ?_⟩
  · unfold PySem.W.clsIn
    rw [hC]
  · unfold PySem.W.mroIn PySem.W.clsIn
    rw [hC]
    show (if (Value.ref C :: bm).isEmpty = true then none else some ((Value.ref C :: bm).contains (.ref C))) = some true
    rw [if_neg (by simp)]
    simp
theorem ini_run {A : Around} {hp : Heap} {g : Array GenState} {d : Drawn} {t : Nat} {os : OsState} {R : Result → Shared → Prop} {fI : Addr} (S : XcS P U C f) (M : Mod K mg base) (kb : ∀ b o, base.get? b = some o → hp.get? b = some o) (ub : U.In base) (hms : mg "super" = none)
    (hr : A.depth < recursionLimit) (hi : PySem.W.findIn U (.ref C) "__init__" = some (some (.ref fI))) (u : Value)
    (h : ∀ h' t' dx t1, (∀ b o, hp.get? b = some o → h'.get? b = some o) → hp.objs.size ≤ dx → dx ≠ hp.objs.size + 1 → h'.get? (hp.objs.size + 1) = some ({ cls := .ref C, dict := some dx, data := .fields #[.ref t1, .none, .none, .none, .bool false, .none] } : Obj) →
      h'.Ns1 dx (fun y => if y = f then some u else none) → R (.ok (.ret .none)) ⟨h', g, d, t', os⟩) :
    codeAny (model P w) A (.call (.ref fI) ⟨[.ref (hp.objs.size + 1), u], []⟩) R ⟨(hp.push (PySem.W.kdv_tup [u])).push (PySem.HandSPX.excO C hp.objs.size), g, d, t, os⟩ := by
  obtain ⟨fI', cc, cda, nm, qual, params, body, scope, kV, doc, pm, an, ct, oc, od, osl, hi', tI, lk, hcd, ⟨ccl, cdd, vs, ccs, file, tf, lc, hvs, hfile⟩, ⟨cl, cld, csl, lcc⟩, B⟩ := S.fn
  obtain rfl : fI' = fI := by
    rw [hi] at hi'
    injection hi' with z
    injection z with z
    injection z with z
    exact z.symm
  obtain ⟨sf, a, p0, p1, p2, p3, p4, p5, p6, p7, p8, p9, ar, rfl, har, ha0, hne, hsf, ha, hd1, hd2, hln, hb⟩ := B.ex
  obtain ⟨nmC, qC, NC, bs, bm, sn, sub, ab, col, dd, k0, k1, k2, k3, k5, hC, hbm⟩ := S.ob
  obtain ⟨cd, hcl, hmro, hhd, hself⟩ := S.cl
  have X0 : U.In hp := fun b o e => kb b o (ub b o e)
  have kk : ∀ b o, hp.get? b = some o → ((hp.push (PySem.W.kdv_tup [u])).push (PySem.HandSPX.excO C hp.objs.size)).get? b = some o := fun b o e => Heap.get?_push_of_some _ (Heap.get?_push_of_some _ e)
  have hget : ((hp.push (PySem.W.kdv_tup [u])).push (PySem.HandSPX.excO C hp.objs.size)).get? (hp.objs.size + 1) = some (PySem.HandSPX.excO C hp.objs.size) := by heap_get
  generalize ((hp.push (PySem.W.kdv_tup [u])).push (PySem.HandSPX.excO C hp.objs.size)) = h2 at kk hget
  have hlt : hp.objs.size + 1 < h2.objs.size := Heap.lt_size hget
  have hsz : hp.objs.size ≤ h2.objs.size := Nat.le_of_lt (Nat.lt_of_succ_lt hlt)
  refine ks_codeAny_call_defAt (binds := [(sf, .ref (hp.objs.size + 1)), (a, u)]) hr (kk _ _ (X0 _ _ lk)) rfl ((M.nolimit.keeps kb).keeps kk) (PySem.W.codeRec_of (fun b o e => kk b o (X0 b o e)) hcd) rfl (BindsTo.of_eq (hb ..)) B.noc ?_ (fun h1 hns hk1 => ?_) B.co B.gen B.kind
  · intro y hy
    rcases List.mem_cons.mp hy with rfl | hy
    · exact hsf
    · rcases List.mem_cons.mp hy with rfl | hy
      · exact ha
      · cases hy
  have ms : (fun y => [(sf, Value.ref (hp.objs.size + 1)), (a, u)].reverse.lookup y) sf = some (.ref (hp.objs.size + 1)) := by
    show ([(a, u), (sf, Value.ref (hp.objs.size + 1))] : List (Str × Value)).lookup sf = _
    rw [List.lookup_cons, show (sf == a) = false by simpa using fun e => hne e.symm, List.lookup_cons, beq_self_eq_true]
  have ma : (fun y => [(sf, Value.ref (hp.objs.size + 1)), (a, u)].reverse.lookup y) a = some u := by
    show ([(a, u), (sf, Value.ref (hp.objs.size + 1))] : List (Str × Value)).lookup a = _
    rw [List.lookup_cons, beq_self_eq_true]
  have F1 : Fr hp h2.objs.size h1 (fun y => [(sf, Value.ref (hp.objs.size + 1)), (a, u)].reverse.lookup y) := ⟨hns, fun b o e => hk1 b o (kk b o e), hsz⟩
  have N1 : News hp h2.objs.size h1 [(hp.objs.size + 1, PySem.W.excObj C hp.objs.size none .none)] := fun p hp => by
    rcases List.mem_cons.mp hp with rfl | hp
    · exact ⟨hk1 _ _ hget, Nat.ne_of_lt hlt, Heap.get?_none_of_le (Nat.le_succ _)⟩
    · cases hp
  generalize (fun y => [(sf, Value.ref (hp.objs.size + 1)), (a, u)].reverse.lookup y) = m at ms ma F1
  change _root_.PySem.wpAt (model P w) (A.deeper (PySem.W.ksEnv qual scope h2.objs.size fI' (.ref cda) cc)) (.func _ (PySem.W.ksEnv qual scope h2.objs.size fI' (.ref cda) cc)) (execs _ (PySem.W.ksEnv qual scope h2.objs.size fI' (.ref cda) cc)) _ _ _
  refine ks_wpAt_execs_cons (ks_wpAt_Expr_any (ks_wpAt_MethodCall ?_ (ev_mth hln)) (by unfold interactive; rw [show (PySem.W.ksEnv qual scope h2.objs.size fI' (.ref cda) cc).scope.kind = .function from B.kind]; rfl))
  have hX1 : U.In h1 := X0.keeps F1.keep
  have hinst : PySem.W.InstAt h1 (hp.objs.size + 1) (PySem.W.excObj C hp.objs.size none .none) C none := ⟨(N1 _ List.mem_cons_self).1, rfl, rfl, trivial⟩
  obtain ⟨oD, hD1, hD2⟩ : ∃ oD, h1.get? C = some oD ∧ oD.data = .cls cd := by
    have e := hcl
    unfold PySem.W.clsIn at e
    rw [hC] at e
    exact ⟨_, hX1 _ _ hC, congrArg Data.cls (Option.some.inj e)⟩
  obtain ⟨mb, hmb, hblt⟩ := M.blt
  refine ks_wpAt_super_base (f := fI') (cc := cda) (env := PySem.W.ksEnv qual scope h2.objs.size fI' (.ref cda) cc) B.sup B.cls (by decide) rfl (hX1 _ _ lk) rfl har rfl (hX1 _ _ lc) rfl hvs hfile S.top ?_
  refine PySem.W.ks_loadName_global B.kind B.sup (Calls.loadGlobal_builtin (env := PySem.W.ksEnv qual scope h2.objs.size fI' (.ref cda) cc) ((M.glob.keeps kb).keeps F1.keep) hms ((hmb.keeps kb).keeps F1.keep) ((hblt _ (by decide +kernel)).trans (show bootBuiltins "super" = some (.type "super") by boot_by_name)) ⟨rfl, ?_⟩)
  refine wpAny_loadName_free B.kind B.cls (show (List.lookup ("__class__" : Str) [(("__class__" : Str), cc)]) = some cc by rfl) ⟨_, hX1 _ _ lcc, rfl⟩ ?_
  rw [ha0]
  refine wpAny_loadName_local B.kind hsf F1.ns ms ?_
  refine ks_wpAny_isType_cls hD1 hD2 ⟨rfl, ?_⟩
  refine ks_wpAny_call_super hD1 hD2 hinst.at_ rfl (fun c e => by cases e) (PySem.W.looks_mroIn hX1 hself) (fun h3 e3 k3 => ?_)
  obtain ⟨F3, N3, l3⟩ := PySem.W.ks_newsPush (s := ⟨h1, g, d, t + 2, os⟩) (o := PySem.W.ks_superObj C (hp.objs.size + 1) C) F1 N1 rfl e3 k3
  have hinst3 : PySem.W.InstAt h3 (hp.objs.size + 1) (PySem.W.excObj C hp.objs.size none .none) C none := ⟨(N3 _ (.tail _ List.mem_cons_self)).1, rfl, rfl, trivial⟩
  refine PySem.W.kxs_method PySem.W.kxs_ValueError F3 X0 N3 List.mem_cons_self hinst3 S.opq S.sup S.ve (by decide) fun q h4 F4 N4 l4 => ?_
  refine PySem.W.kxs_callWith1 (u := q) (x := hp.objs.size + 1) (i := "ValueError.__init__") N4 List.mem_cons_self (spliced_more (wpAny_Name (wpAny_loadName_local B.kind ha F4.ns ma (spliced_none ⟨PySem.W.kxs_at N4 List.mem_cons_self, ?_⟩)) hd2)) rfl rfl
  have ne1 : h1.objs.size ≠ hp.objs.size + 1 := Nat.ne_of_gt (l3 _ List.mem_cons_self)
  have ne2 : q ≠ hp.objs.size + 1 := Nat.ne_of_gt (l4 _ (.tail _ List.mem_cons_self))
  refine PySem.W.kxs_call F4 X0 N4 F.excBase_ValueError S.ini List.mem_cons_self (.tail ne2 (.tail ne1 (.head (fun p hp => by cases hp)))) (by show 1 ≤ sizeLine; decide) fun t5 h5 F5 N5 l5 => ?_
  have hinst5 : PySem.W.InstAt h5 (hp.objs.size + 1) (PySem.W.excObj C t5 none .none) C none := ⟨(N5 (hp.objs.size + 1, PySem.W.excObj C t5 none .none) (by simp)).1, rfl, rfl, trivial⟩
  refine ks_wpAt_execs_cons (ks_wpAt_Assign_Attr (wpAt_of_wpAny (wpAny_Name (wpAny_loadName_local B.kind ha F5.ns ma ?_) hd2)) rfl)
  refine wpAny_Name (wpAny_loadName_local B.kind hsf F5.ns ms ?_) hd1
  refine PySem.W.set_plain (X0.keeps F5.keep) hinst5 S.sa ?_
  refine PySem.HandSPX.exc_osa (X0.keeps F5.keep) hinst5.at_ hcl hmro hhd S.nof fun h6 t6 dx k6 dn dne hx hn => ?_
  refine wpAt_of_wpAny ?_
  show wpAny _ _ (pure Flow.next) _ _ _
  refine wpAny_pure ?_
  have kp : ∀ b o, hp.get? b = some o → h6.get? b = some o := fun b o e => k6 b o (fun z => by
    rw [z] at e
    exact Nat.not_lt_of_le (Nat.le_succ _) (Heap.lt_size e)) (F5.keep b o e)
  exact h h6 _ dx t5 kp (Nat.le_trans (Nat.le_of_lt (Nat.lt_of_le_of_lt F5.above (by
    obtain ⟨oL, es, ep, hL, r⟩ := F5.ns
    exact Heap.lt_size hL))) dn) dne hx hn
theorem excK_own {X : Cx} {G : Gc} {k : Nat} {x : Str} {c : Nat} (S : XcS X.prog U (G.ca c) f) (ub : U.In X.base) (hms : X.mg "super" = none) (hxf : G.xf c = [f]) (hm : X.mg x = some (.ref (G.ca c))) (hdb : (x == ("__debug__" : Str)) = false)
    (h1 : PySem.W.subIn X.K (.ref (G.ca c)) (.type "BaseException") = some true) (h2 : PySem.W.typeIn X.K (.ref (G.ca c)) = some (.type "type")) (h3 : PySem.W.keepIn X.K (.ref (G.ca c)) = true) : ExcK X G (k + 1) x c := by
  intro Y hY hcalm hr hg a as t p pos ha hall pins s σ H Q I h
  obtain ⟨nm, q, N, bs, bm, sn, sub, ab, col, dd, k0, k1, k2, k3, k5, hC, hbm⟩ := S.ob
  obtain ⟨fI, cc, cda, nmf, qual, params, body, scope, kV, doc, pm, an, ct, oc, od, osl, hi, tI, _⟩ := S.fn
  have hP : model Y.prog Y.w = model X.prog Y.w := by rw [hY.prog]
  have ubY : U.In Y.base := by rw [hY.base]; exact ub
  refine wpAny_Call_Name_kw (ld_glob I hg (by rw [hY.mg]; exact hm) ?_ hdb)
  refine PySem.W.callWith_K (h₀ := Y.base) I.ok.mod.kin (by rw [hY.K]; exact h3) (thn (ha.run pos pins s σ H _ I h) fun us s1 ⟨vs, H1, I1, r1, hl, q1⟩ => ⟨I1.kIn, ?_⟩) (star_cons as Y.env (by
    rw [List.all_cons] at hall
    exact (Bool.and_eq_true_iff.mp hall).1)) (star_any pos (by
    rw [List.all_cons] at hall
    exact (Bool.and_eq_true_iff.mp hall).2))
  show wpAny _ _ (PySem.call (.ref (G.ca c)) us) _ _ _
  rw [hxf] at hl q1
  obtain ⟨v, rfl⟩ : ∃ v, vs = [v] := by
    match vs, hl with
    | [v], _ => exact ⟨v, rfl⟩
  obtain ⟨u, rfl, ru⟩ : ∃ u, us = [u] ∧ L2.RelV v u := by
    cases r1 with
    | cons ra rb => cases rb with
      | nil => exact ⟨_, rfl, ra⟩
  obtain ⟨hp, g, dr, tk, os⟩ := s1
  have XU : U.In hp := fun b o e => I1.bk b o (ubY b o e)
  have hms' : Y.mg "super" = none := by rw [hY.mg]; exact hms
  refine wpAny_call (PySem.HandSPX.call_own F.excBase_ValueError (fun Z => PySem.HandSPX.refsVE_contains Z bm hbm) (XU _ _ hC) (PySem.W.looks_findIn XU hi) (fun self => PySem.W.bind_fn XU self tI) (by show 1 ≤ sizeLine; decide) ?_)
  have S' : XcS Y.prog U (G.ca c) f := by rw [hY.prog]; exact S
  refine ini_run S' I1.ok.mod I1.bk ubY hms' (hr.make (G.ca c) [u] []).depth hi u fun h' t' dx t1 hk hdx hne hx hn => ?_
  show Value.none = Value.none ∧ _
  refine ⟨rfl, ?_⟩
  obtain ⟨Gh, g1, g2⟩ := restrict h' fun b => decide (b ≠ hp.objs.size + 1)
  have gk : ∀ b, b ≠ hp.objs.size + 1 → Gh.get? b = h'.get? b := fun b hb => g1 b (decide_eq_true hb)
  have ge : Gh.get? (hp.objs.size + 1) = none := g2 _ (by simp)
  have J : Inv Y pins σ (upd H1 dx (.xd [(f, v)])) ⟨Gh, g, dr, t', os⟩ := I1.laid (t' := t') (a := dx) (o := .xd [(f, v)]) (h' := Gh) (fun b o e => by
      rw [gk b (fun z => by
        rw [z] at e
        exact Nat.not_lt_of_le (Nat.le_succ _) (Heap.lt_size e))]
      exact hk b o e) hdx ⟨_, hn.at fun o y => (gk dx hne).trans y, relO_put (fs := []) ru fun g => True.intro⟩
  have hd0 : H1 dx = none := I1.hok.fresh hdx
  have hn0 : H1 (hp.objs.size + 1) = none := I1.hok.fresh (Nat.le_succ _)
  refine ⟨hp.objs.size + 1, _, _, ⟨Gh, g, dr, t', os⟩, _, .ref (G.ca c), some dx, rfl, J, fun b o e => ?_, ge, hx, ⟨rfl, rfl⟩, rfl, rfl, ?_, rfl, I1.bare, raises_own (by rw [hY.K]; exact h1) (by rw [hY.K]; exact h2), q1 dx [(f, v)] hd0 fun i n w e1 e2 => ?_⟩
  · by_cases hb : b = hp.objs.size + 1
    · rw [hb, ge] at e
      cases e
    · exact (gk b hb).symm.trans e
  · rw [upd_ne (Ne.symm hne)]
    exact hn0
  · cases i with
    | zero =>
      injection e1 with e1
      injection e2 with e2
      subst e1
      subst e2
      show List.lookup f [(f, v)] = some v
      rw [List.lookup_cons, beq_self_eq_true]
    | succ j => cases e1
end
end Ev
namespace Ev
open L2 PySem PySem.Spec PyProof.Rows

/-! ## the end: the law is called by the judge, no repr under way -/
section
variable {P : Program} {w : World} {K : PySem.W.Frag} {mg mb : Str → Option Value} {CX : CXT} {k : Nat} {fa a : Addr} {fd : FuncData} {x : Str} {sp : Sp} {s : Shared} {vs : List Value} {ns : List Int}
def eTab : Obj := { cls := .none, data := .fields #[] }
def eScr (vs : List Value) : Obj := { cls := .type "list", data := .seq vs.toArray }
/-- what is tracked at the call: the script, the tables -/
def endH (a : Addr) (ns : List Int) (vs : List Value) (ts : List Addr) : Hp := fun b => if b = a then some (.frz (eScr vs) (.lst (ns.map V.int))) else if b ∈ ts then some (.tbl #[]) else none
theorem endH_off {ts : List Addr} (ha : s.heap.get? a = some (eScr vs)) (hT : ∀ b, b ∈ ts → s.heap.get? b = some eTab) {b : Addr} {o : Obj} (e : s.heap.get? b = some o) (n1 : o ≠ eScr vs) (n2 : o ≠ eTab) : endH a ns vs ts b = none := by
  unfold endH
  rw [if_neg (fun z => by rw [z, ha] at e; exact n1 (Option.some.inj e).symm), if_neg (fun z => by rw [hT b z] at e; exact n2 (Option.some.inj e).symm)]
theorem ne_of_data {o u : Obj} (h : o.data ≠ u.data) : o ≠ u := fun z => h (congrArg Obj.data z)
theorem FnR.law (KX : K.In s.heap) (hG : s.heap.Ns mainGlobals mg) (hB : s.heap.Ns builtinsNs mb) (hbb : ∀ x : Str, x ≠ "__name__" → mb x = bootBuiltins x) (hlim : s.heap.NoLimit) (hgen : s.gens = #[]) (cs : List (Addr × Addr))
    (hT : ∀ p ∈ cs, s.heap.get? p.2 = some eTab) (nT : ∀ p ∈ cs, K.lookup p.2 = none) (hC : ∀ p ∈ cs, PySem.W.CodeHd s.heap p.1 p.2)
    (hmain : ∃ (bm : Addr) (ob : Obj), mg "__builtins__" = some (.ref bm) ∧ bm ≠ builtinsNs ∧ s.heap.get? bm = some ob ∧ ob.cls = .type "module" ∧ ob.dict = some builtinsNs ∧ ob.data = .plain)
    (ha : s.heap.get? a = some (eScr vs)) (na : K.lookup a = none) (hi : IntsAre vs ns) (hl : ns.length ≤ sizeLine) (hr : Room k callerA)
    (F : ∀ base : Heap, K.In base → base.Ns mainGlobals mg → (∀ p ∈ cs, LamX.TabB base mg p.1 p.2) → L2.Mod K mg base → FnR true P w K mg base CX k fa fd [x] sp) (hbind : ∀ (s : Shared) (u : Value), BindsTo s fd ⟨[u], []⟩ [(x, u)])
    (hsp : sp [.ref a] (endH a ns vs (cs.map (·.2))) (fun v _ => v = .bl true) fun _ _ _ => False) (hCX : ∀ H e s', CX [] H s (fun _ _ _ => False) e s' → False) :
    codeAny (model P w) callerA (.call (.ref fa) ⟨[.ref a], []⟩) (fun r s' => r = .ok (.ret (.bool true)) ∧ OldK s.heap s'.heap ∧ s'.os = s.os ∧ AllBare s'.gens) s := by
  have mem : ∀ p ∈ cs, p.2 ∈ cs.map (·.2) := fun p hp => List.mem_map.mpr ⟨p, hp, rfl⟩
  have tab : ∀ b, b ∈ cs.map (·.2) → s.heap.get? b = some eTab := fun b hb => by
    obtain ⟨p, hp, rfl⟩ := List.mem_map.mp hb
    exact hT p hp
  have aT : ∀ p ∈ cs, p.2 ≠ a := fun p hp z => by
    have e := hT p hp
    rw [z, ha] at e
    cases congrArg Obj.data (Option.some.inj e)
  generalize hH : endH a ns vs (cs.map (·.2)) = H at hsp
  have hHa : H a = some (.frz (eScr vs) (.lst (ns.map V.int))) := by
    rw [← hH]
    exact if_pos rfl
  have hHt : ∀ p ∈ cs, H p.2 = some (.tbl #[]) := fun p hp => by
    rw [← hH]
    exact (if_neg (aT p hp)).trans (if_pos (mem p hp))
  have hHo : ∀ b, b ≠ a → b ∉ cs.map (·.2) → H b = none := fun b h1 h2 => by
    rw [← hH]
    exact (if_neg h1).trans (if_neg h2)
  have off : ∀ {b : Addr} {o : Obj}, s.heap.get? b = some o → o.data ≠ (eScr vs).data → o.data ≠ eTab.data → (hidT s.heap H).get? b = some o := fun {b o} e n1 n2 =>
    hidT_get e (by rw [← hH]; exact endH_off ha tab e (ne_of_data n1) (ne_of_data n2))
  have nsb : ∀ {b : Addr} {m : Str → Option Value}, s.heap.Ns b m → (hidT s.heap H).Ns b m := fun {b m} z => by
    obtain ⟨o, es, ep, e, hd, r⟩ := z
    exact ⟨o, es, ep, off e (by rw [hd]; exact fun z => by cases z) (by rw [hd]; exact fun z => by cases z), hd, r⟩
  have Kb : K.In (hidT s.heap H) := fun b o e => hidT_get (KX b o e) (hHo b (fun z => by rw [z, na] at e; cases e) fun z => by
    obtain ⟨p, hp, q⟩ := List.mem_map.mp z
    rw [← q, nT p hp] at e
    cases e)
  have hM : L2.Mod K mg (hidT s.heap H) := ⟨Kb, nsb hG, ⟨mb, nsb hB, hbb⟩, by
    obtain ⟨mc, h1, h2⟩ := hlim
    exact ⟨mc, nsb h1, h2⟩⟩
  have TB : ∀ p ∈ cs, LamX.TabB (hidT s.heap H) mg p.1 p.2 := fun p hp => by
    refine ⟨?_, ?_, fun q => ?_⟩
    · obtain ⟨o, us, file, tf, fl, tg, inF, tx, tt, e1, r1, r2, r3, rr⟩ := hC p hp
      refine ⟨o, us, file, tf, fl, tg, inF, tx, tt, off e1 (by rw [r2]; exact fun z => by cases z) (fun z => ?_), r1, r2, r3, rr⟩
      rw [r2] at z
      cases z
      simp at r3
    · obtain ⟨bm, ob, b1, b2, b3, b4, b5, b6⟩ := hmain
      refine ⟨bm, ob, b1, b2, fun q => ?_, fun q => ?_, off b3 (by rw [b6]; exact fun z => by cases z) (by rw [b6]; exact fun z => by cases z), b4, b5, b6⟩
      · obtain ⟨o, es, ep, e, hd, _⟩ := hG
        rw [← q, b3] at e
        rw [← Option.some.inj e, b6] at hd
        cases hd
      · rw [q, hT p hp] at b3
        rw [← Option.some.inj b3] at b6
        cases b6
    · obtain ⟨o, es, ep, e, hd, _⟩ := hG
      rw [q, hT p hp] at e
      rw [← Option.some.inj e] at hd
      cases hd
  have rv : Vals (ns.map V.int) vs := vals_ints hi
  have hok : HOk P w H s.heap := fun b o z => by
    by_cases h1 : b = a
    · subst h1
      rw [hHa] at z
      cases z
      exact ⟨ha, by rw [List.length_map]; exact hl, vs, _, rv, ha⟩
    · by_cases h2 : b ∈ cs.map (·.2)
      · obtain ⟨p, hp, rfl⟩ := List.mem_map.mp h2
        rw [hHt p hp] at z
        cases z
        exact hT p hp
      · rw [hHo b h1 h2] at z
        cases z
  have e0 : Env0 P w K mg (hidT s.heap H) callerA [] s H := ⟨rfl, hM, fun b o e => of_hidT e, Nat.le_of_eq (hidT_size _ _), trivial, fun b hb => absurd (show b ∈ ([] : List Addr) from hb) List.not_mem_nil, hok, .of_eq hgen⟩
  refine codeAny_mono ((F _ Kb (nsb hG) TB hM).go callerA [] s H ⟨[.ref a], []⟩ [.ref a] [.ref a] _ _ hr (fun _ => rfl) e0 (hbind s (.ref a)) (.cons rfl .nil) hsp) fun r s' h => ?_
  match r, h with
  | .error e, h => exact (hCX H e s' h).elim
  | .ok .next, h => exact False.elim h
  | .ok .brk, h => exact False.elim h
  | .ok .cont, h => exact False.elim h
  | .ok (.ret u), h =>
    obtain ⟨v, H', os, bare, un, hok', rel, q⟩ := h
    have ev : v = .bl true := q
    subst ev
    obtain rfl : u = Value.bool true := rel
    have noe : ∀ b : Addr, b ∉ frs ([] : List PySem.Env) := fun b z => by cases (show b ∈ ([] : List Addr) from z)
    have gr : ∀ p ∈ cs, ∃ more : Array Value, s'.heap.get? p.2 = some { cls := .none, data := .fields more } := fun p hp => by
      obtain ⟨more, z⟩ := un.tbls p.2 #[] (hHt p hp)
      exact ⟨_, hok' p.2 _ z⟩
    have kept : ∀ b o, b ∉ cs.map (·.2) → s.heap.get? b = some o → s'.heap.get? b = some o := fun b o n e => by
      by_cases h1 : b = a
      · subst h1
        rw [ha] at e
        rw [← Option.some.inj e]
        exact (hok' b _ (un.frzs b _ _ hHa)).1
      · exact un.keep b o e (hHo b h1 n) (noe b) (fun z => by cases z)
    refine ⟨rfl, ⟨fun b o e => ?_, fun b o e => ?_⟩, os, bare⟩
    all_goals by_cases hb : b ∈ cs.map (·.2)
    · obtain ⟨p, hp, rfl⟩ := List.mem_map.mp hb
      obtain ⟨more, hm⟩ := gr p hp
      rw [hT p hp] at e
      have e2 : o = { cls := .none, data := .fields #[] } := (Option.some.inj e).symm
      subst e2
      exact .inr (.inl ⟨((hC p hp).tab (hT p hp)).isCodeTable, rfl, #[], more, rfl, by rw [Array.empty_append]; exact hm⟩)
    · exact .inl (kept b o hb e)
    · obtain ⟨p, hp, rfl⟩ := List.mem_map.mp hb
      obtain ⟨more, hm⟩ := gr p hp
      exact ⟨_, hm⟩
    · exact ⟨o, kept b o hb e⟩
end
/-- what is known of the law at the head's heap -/
def LawG (l : PySem.W.OpenLaw) (w : World) (k n : Nat) (x : Str) (mg : Str → Option Value) (fa : Addr) (h : Heap) : Prop :=
  ∃ (K : PySem.W.Frag) (fd : FuncData) (cs : List (Addr × Addr)) (sp : Sp), K.In h ∧ (∀ b o, K.lookup b = some o → o.cls ≠ .type "list") ∧ (∀ p ∈ cs, h.get? p.2 = some eTab) ∧ (∀ p ∈ cs, K.lookup p.2 = none) ∧ (∀ p ∈ cs, PySem.W.CodeHd h p.1 p.2) ∧
    (∀ (s : Shared) (u : Value), BindsTo s fd ⟨[u], []⟩ [(x, u)]) ∧
    (∀ (a : Addr) (ns : List Int) (vs : List Value), ns.length ≤ n → (∀ z ∈ ns, Builtin.Int.intBits z ≤ 1048576) → a ∉ cs.map (·.2) → sp [.ref a] (endH a ns vs (cs.map (·.2))) (fun v _ => v = .bl true) fun _ _ _ => False) ∧
    ∀ base : Heap, K.In base → base.Ns mainGlobals mg → (∀ p ∈ cs, LamX.TabB base mg p.1 p.2) → L2.Mod K mg base → FnR true l.prog w K mg base (L2.CX l.prog w) k fa fd [x] sp
theorem walkG {l : PySem.W.OpenLaw} {n k : Nat} {q : Program} {loose : List Str} {XP : (Str → Option Value) → Heap → Prop} {YP : World → Heap → Prop} {d : DefRec} {x : Str} (hn : l.most = some n) (hz : n ≤ sizeLine) (hd0 : d.params.defaults = []) (hr : Room k callerA)
    (F : ∀ (w : World) (mg : Str → Option Value) (fa : Addr) (h : Heap), YP w h → h.Ns mainGlobals mg → mg d.name = some (.ref fa) → LawG l w k n x mg fa h) : PySem.W.WalkO q loose XP YP l.row.toRowW d [] (fun f vs => PySem.call f vs) := by
  refine Att.attach_callB hn hd0 fun w s0 s1 mg mb fa o pm cd doc a vs ns Gr Y ho hod hcd hmg hobj hints hlen hbits hgen => ?_
  obtain ⟨K, fd, cs, sp, KX, nl, hT, nT, hC, hb, hsp, hF⟩ := F w mg fa _ Y Gr.T.g hmg
  have aT : a ∉ cs.map (·.2) := fun z => by
    obtain ⟨p, hp, e⟩ := List.mem_map.mp z
    have e2 := hT p hp
    rw [e, hobj] at e2
    cases congrArg Obj.data (Option.some.inj e2)
  have na : K.lookup a = none := by
    cases e : K.lookup a with
    | none => rfl
    | some o =>
      have e2 := KX a o e
      rw [hobj] at e2
      exact absurd (by rw [← Option.some.inj e2]) (nl a o e)
  exact FnR.law KX Gr.T.g Gr.T.b Gr.T.builtins Gr.T.nolimit hgen cs hT nT hC Gr.T.bmain hobj na hints (Nat.le_trans hlen hz) hr hF hb (hsp a ns vs hlen hbits aT) fun H e s' z => by
    obtain ⟨_, _, _, _, _, _, _, _, _, _, _, _, z⟩ := z
    exact z
end Ev
namespace Ev
open L2 PySem PySem.Spec PyProof.Rows

/-! ## the head: what is looked at behind the top -/
/-- a class's own __init__ with one free name -/
structure MthD where
  cls : Str
  name : Str
  qual : Str
  params : Arguments
  body : List Stmt
  scope : Scope
  fld : Str
abbrev MthV : Type := Option (Str × Str × Arguments × FuncBody × Scope × Addr × List Str × Value × Addr)
def mthV (K : PySem.W.Frag) (m : MthD) : MthV := match K.lookup (He.ma K (He.ga K m.cls) m.name) with
  | some ⟨_, _, .func fd, _⟩ => some (fd.name, fd.qualname, fd.params, fd.body, fd.scope, fd.globals, fd.closure.map (·.1), fd.defaults, fd.builtins)
  | _ => none
def MthD.val (m : MthD) : MthV := some (m.name, m.qual, m.params, .stmts m.body, m.scope, mainGlobals, ["__class__"], .none, builtinsNs)
def clsB (K : PySem.W.Frag) (C : Addr) : Bool := match K.lookup C with
  | some ⟨.type c, _, .cls cd, sl⟩ => decide (c = "type") && (match cd.mro, sl.toList with
    | .ref D :: bm, [_, _, _, _, some (.builtin n), _] => decide (D = C) && (decide (n = "ValueError.__new__") && (!cd.hasDel && (cd.hasDict && PySem.HandSPX.refsVE bm)))
    | _, _ => false)
  | _ => false
theorem clsB_ok {K : PySem.W.Frag} {C : Addr} (h : clsB K C = true) : ∃ nm q N bs bm sn sub ab col dd k0 k1 k2 k3 k5, K.lookup C = some (excClassObj nm q C N bs bm true sn sub ab col dd k0 k1 k2 k3 k5 "ValueError.__new__") ∧ PySem.HandSPX.refsVE bm = true := by
  unfold clsB at h
  split at h
  · rename_i c dd cd sl hk
    obtain ⟨h0, h⟩ := Bool.and_eq_true_iff.mp h
    obtain ⟨nm, bs, mro, N, q, hd, sn, sub, ab, col, del⟩ := cd
    dsimp only at h
    split at h
    · rename_i D bm k0 k1 k2 k3 n k5 e1 _
      obtain ⟨h1, h⟩ := Bool.and_eq_true_iff.mp h
      obtain ⟨h2, h⟩ := Bool.and_eq_true_iff.mp h
      obtain ⟨h3, h⟩ := Bool.and_eq_true_iff.mp h
      obtain ⟨h4, h5⟩ := Bool.and_eq_true_iff.mp h
      have g0 := of_decide_eq_true h0
      have g1 := of_decide_eq_true h1
      have g2 := of_decide_eq_true h2
      have g3 : del = false := by simpa using h3
      subst g0 g1 g2 g3 h4
      have e3 : sl = #[k0, k1, k2, k3, some (.builtin "ValueError.__new__"), k5] := by
        rw [← Array.toArray_toList (xs := sl), e1]
      subst e3
      exact ⟨nm, q, N, bs, bm, sn, sub, ab, col, dd, k0, k1, k2, k3, k5, hk, h5⟩
    · cases h
  · cases h
/-- the __init__'s cell tells its class, its code the file -/
def iniB (K : PySem.W.Frag) (C f : Addr) (q file : Str) : Bool := match K.lookup f with
  | some ⟨_, _, .func fd, _⟩ => PySem.W.codeIn K fd.code q && ((match fd.closure with
      | (_, cc) :: _ => (match K.lookup cc with
        | some ⟨_, _, .cell (some (.ref D)), _⟩ => decide (D = C)
        | _ => false)
      | [] => false) && (match fd.code with
      | .ref c => (match K.lookup c with
        | some ⟨_, _, .fields vs, _⟩ => (match (vs[2]? : Option Value) with
          | some (.str z _) => file == z
          | _ => false)
        | _ => false)
      | _ => false))
  | _ => false
def xcB (K : PySem.W.Frag) (m : MthD) (file : Str) : Bool :=
  clsB K (He.ga K m.cls) && (decide (PySem.W.findIn K (.ref (He.ga K m.cls)) "__setattr__" = some (some (.builtin "object.__setattr__"))) && (decide (PySem.W.subIn K (.ref (He.ga K m.cls)) (.type "ValueError") = some true) &&
    (decide (PySem.W.findIn K (.ref (He.ga K m.cls)) m.fld = some none) && (decide (PySem.W.ks_superIn K (He.ga K m.cls) (He.ga K m.cls) "__init__" = some (some (.builtin "ValueError.__init__"))) && (PySem.W.excInitIn K (He.ga K m.cls) veT "ValueError.__new__" &&
      (decide (PySem.W.nsIn K PySem.cStatics "thirdparty.any" = some none) && (decide (PySem.W.findIn K (.ref (He.ga K m.cls)) m.name = some (some (.ref (He.ma K (He.ga K m.cls) m.name)))) && (decide (PySem.W.typeIn K (.ref (He.ma K (He.ga K m.cls) m.name)) = some (.type "function")) &&
        iniB K (He.ga K m.cls) (He.ma K (He.ga K m.cls) m.name) m.qual file))))))))
theorem iniB_ok {K : PySem.W.Frag} {C f : Addr} {m : MthD} {P : Program} (h : iniB K C f m.qual P.main.file = true) (hv : (match K.lookup f with
  | some ⟨_, _, .func fd, _⟩ => some (fd.name, fd.qualname, fd.params, fd.body, fd.scope, fd.globals, fd.closure.map (·.1), fd.defaults, fd.builtins)
  | _ => none) = m.val) : ∃ cc cda kV doc pm an ct oc od osl, K.lookup f = some ⟨oc, od, .func (PySem.W.ksFn m.name m.qual m.params m.body m.scope .none kV doc pm an (.ref cda) ct cc), osl⟩ ∧ PySem.W.codeIn K (.ref cda) m.qual = true ∧
    (∃ ccl cdd vs ccs file tf, K.lookup cda = some ⟨ccl, cdd, .fields vs, ccs⟩ ∧ vs[2]? = some (.str file tf) ∧ ((P.main.file : Str) == file) = true) ∧ ∃ cl cld csl, K.lookup cc = some ⟨cl, cld, .cell (some (.ref C)), csl⟩ := by
  unfold iniB at h
  split at h
  · rename_i oc od fd osl hk
    rw [hk] at hv
    obtain ⟨n1, n2, n3, n4, n5, n6, n7, n8, n9, n10, n11, n12, n13, n14, n15⟩ := fd
    dsimp only at h hv
    have e2 : (some (n1, n2, n3, n4, n5, n6, n7.map (·.1), n8, n15) : MthV) = (some (m.name, m.qual, m.params, .stmts m.body, m.scope, mainGlobals, ["__class__"], .none, builtinsNs) : MthV) := hv
    simp only [Option.some.injEq, Prod.mk.injEq] at e2
    obtain ⟨h1, h2, h3, h4, h5, h6, h7, h8, h9⟩ := e2
    subst h1 h2 h3 h4 h5 h6 h8 h9
    obtain ⟨g1, h⟩ := Bool.and_eq_true_iff.mp h
    obtain ⟨g2, g3⟩ := Bool.and_eq_true_iff.mp h
    obtain ⟨cda, rfl⟩ := He.codeIn_ref g1
    match n7, h7, g2, hk with
    | [(_, cc)], h7, g2, hk =>
      have h7' : _ = ("__class__" : Str) := List.cons.inj h7 |>.1
      dsimp only at h7' g2
      subst h7'
      refine ⟨cc, cda, n9, n10, n11, n12, n14, oc, od, osl, hk, g1, ?_, ?_⟩
      · dsimp only at g3
        split at g3
        · rename_i o1 o2 vs o3 hc
          split at g3
          · rename_i z t hz
            exact ⟨_, _, _, _, _, _, hc, hz, g3⟩
          · cases g3
        · cases g3
      · split at g2
        · rename_i D _ hc
          have := of_decide_eq_true g2
          subst this
          exact ⟨_, _, _, hc⟩
        · cases g2
  · cases h
theorem xcB_ok {K : PySem.W.Frag} {m : MthD} {P : Program} (h : xcB K m P.main.file = true) (hv : mthV K m = m.val) (hn : m.name = "__init__") (B : XcB m.fld m.params m.body m.scope) (top : (P.main.scope.names.lookup ("super" : Str)).isSome = false) : XcS P K (He.ga K m.cls) m.fld := by
  obtain ⟨h1, h⟩ := Bool.and_eq_true_iff.mp h
  obtain ⟨h2, h⟩ := Bool.and_eq_true_iff.mp h
  obtain ⟨h3, h⟩ := Bool.and_eq_true_iff.mp h
  obtain ⟨h4, h⟩ := Bool.and_eq_true_iff.mp h
  obtain ⟨h5, h⟩ := Bool.and_eq_true_iff.mp h
  obtain ⟨h6, h⟩ := Bool.and_eq_true_iff.mp h
  obtain ⟨h7, h⟩ := Bool.and_eq_true_iff.mp h
  obtain ⟨h8, h⟩ := Bool.and_eq_true_iff.mp h
  obtain ⟨h9, h10⟩ := Bool.and_eq_true_iff.mp h
  obtain ⟨cc, cda, kV, doc, pm, an, ct, oc, od, osl, k1, k2, k3, k4⟩ := iniB_ok h10 hv
  refine ⟨clsB_ok h1, of_decide_eq_true h2, of_decide_eq_true h3, of_decide_eq_true h4, of_decide_eq_true h5, h6, of_decide_eq_true h7, ⟨_, cc, cda, _, _, _, _, _, kV, doc, pm, an, ct, oc, od, osl, ?_, of_decide_eq_true h9, k1, k2, k3, k4, B⟩, top⟩
  have := of_decide_eq_true h8
  rw [hn] at this ⊢
  exact this
end Ev
namespace Ev
open L2 PySem PySem.Spec PyProof.Rows

/-! ## the Hook: as HeadHook4's, with methods that have a cell, and two more places -/
def asW (g : Addr → Option Obj) (n : Nat) : List Addr := He.asD g n ++ [sysModules, PySem.cStatics]
abbrev AlW : Type := He.AlT × List MthV × Bool
structure HkD where
  n : Nat
  fa : List He.Fa
  fn : List He.DefD
  ts : List He.Tab
  tf : List He.Defn
  ms : List MthD
  ex : PySem.W.Frag → Bool
def HkD.obsK (c : HkD) (g : Addr → Option Obj) (K : PySem.W.Frag) : AlW := (He.obsT c.fa c.fn c.ts K, c.ms.map (mthV K), c.ex K && He.tabsB g c.tf K)
def HkD.obs (c : HkD) (g : Addr → Option Obj) : AlW := c.obsK g (He.frT g (asW g c.n))
def HkD.val (c : HkD) (w : World) : AlW := (He.valT c.fn c.ts w, c.ms.map MthD.val, true)
structure SaysW (c : HkD) (w : World) (h : Heap) (K : PySem.W.Frag) : Prop where
  t : He.SaysT c.fa c.fn c.ts w K
  m : c.ms.map (mthV K) = c.ms.map MthD.val
  more : c.ex K = true
  hd : ∀ p ∈ c.tf, PySem.W.codeHdIn K (He.cT K p).1 (He.cT K p).2 = true
  out : ∀ p ∈ c.tf, K.lookup (He.cT K p).2 = none
  emp : ∀ p ∈ c.tf, h.get? (He.cT K p).2 = some eTab
theorem saysW_of {c : HkD} {w : World} {h : Heap} (e : c.obs h.get? = c.val w) : SaysW c w h (He.frT h.get? (asW h.get? c.n)) := by
  unfold HkD.obs at e
  generalize hK : He.frT h.get? (asW h.get? c.n) = K at e
  have e1 : He.obsT c.fa c.fn c.ts K = He.valT c.fn c.ts w := congrArg (fun z : AlW => z.1) e
  have e2 : c.ms.map (mthV K) = c.ms.map MthD.val := congrArg (fun z : AlW => z.2.1) e
  have e3 : (c.ex K && He.tabsB h.get? c.tf K) = true := congrArg (fun z : AlW => z.2.2) e
  obtain ⟨g1, g2⟩ := Bool.and_eq_true_iff.mp e3
  have g3 : ∀ p ∈ c.tf, PySem.W.codeHdIn K (He.cT K p).1 (He.cT K p).2 = true ∧ ∃ o, h.get? (He.cT K p).2 = some o ∧ He.emptyTab o = true := fun p hp => by
    obtain ⟨k1, k2⟩ := Bool.and_eq_true_iff.mp (List.all_eq_true.mp g2 p hp)
    refine ⟨k1, ?_⟩
    cases q : h.get? (He.cT K p).2 with
    | none => rw [q] at k2; cases k2
    | some o => rw [q] at k2; exact ⟨o, rfl, k2⟩
  refine ⟨e1, e2, g1, fun p hp => (g3 p hp).1, fun p hp => ?_, fun p hp => ?_⟩
  · obtain ⟨_, o, q, z⟩ := g3 p hp
    rw [← hK] at q ⊢
    exact He.frT_none q z
  · obtain ⟨_, o, q, z⟩ := g3 p hp
    rw [q, He.emptyTab_eq z] <;> rfl
def HkD.hook (c : HkD) : PySem.W.Hook where
  α := AlW
  obs := fun s => c.obs s.heap.get?
  val := fun w => c.val w
  says := fun w h => ∃ K : PySem.W.Frag, K.In h ∧ SaysW c w h K
  of := fun _ _ e => ⟨_, He.frT_in, saysW_of e⟩
  keeps := fun _ _ _ z k => by
    obtain ⟨K, hK, q⟩ := z
    exact ⟨K, PySem.W.Frag.In.keeps hK k, ⟨q.t, q.m, q.more, q.hd, q.out, fun p hp => k _ _ (q.emp p hp)⟩⟩
theorem HkD.obs_eq {c : HkD} {g : Addr → Option Obj} {s : Shared} (h : ∀ a, g a = s.heap.get? a) : c.obs g = c.hook.obs s := by
  have e : g = s.heap.get? := funext h
  subst e
  rfl
/-! ### facts that hooks tell -/
section
variable {c : HkD} {w : World} {h : Heap} {K : PySem.W.Frag}
theorem SaysW.mth (q : SaysW c w h K) {m : MthD} (hm : m ∈ c.ms) : mthV K m = m.val := by
  obtain ⟨i, hi, e⟩ := List.mem_iff_getElem.mp hm
  have e2 : (c.ms.map (mthV K))[i]? = (c.ms.map MthD.val)[i]? := by rw [q.m]
  rw [List.getElem?_map, List.getElem?_map, List.getElem?_eq_getElem hi, e] at e2
  exact Option.some.inj e2
theorem SaysW.fac (q : SaysW c w h K) {f : He.Fa} (hf : f ∈ c.fa) : f.ok K = true := q.t.d.facts hf
theorem SaysW.dcl (q : SaysW c w h K) {d : He.DefD} (hd : d ∈ c.fn) : ∃ fd, FunD K d.name d.qual d.params d.body d.scope (d.dvs K) (d.kws K) (He.fAd K d.at_) fd := q.t.d.defs hd
end
/-- the function at a -/
def fdAt (K : PySem.W.Frag) (a : Addr) : FuncData := match K.lookup a with
  | some ⟨_, _, .func fd, _⟩ => fd
  | _ => default
theorem fdAt_eq {K : PySem.W.Frag} {x qual : Str} {params : Arguments} {body : List Stmt} {scope : Scope} {dvs : List V} {kws : List (Str × V)} {f : Addr} {fd : FuncData} (F : FunD K x qual params body scope dvs kws f fd) : fdAt K f = fd := by
  obtain ⟨oc, od, dV, kV, doc, pm, an, cdv, ct, osl, e, lk, _⟩ := F.ex
  unfold fdAt
  rw [lk]
theorem lookup_mapD {z : Str} : ∀ {kvs : List (Str × Int)}, (kvs.map fun p => (p.1, D.int p.2)).lookup z = (kvs.lookup z).map D.int
  | [] => rfl
  | (k, i) :: r => by
    rw [List.map_cons, List.lookup_cons, List.lookup_cons]
    cases z == k with
    | true => rfl
    | false => exact lookup_mapD
theorem lookup_memS {α : Type} {z : Str} {d : α} : ∀ {kvs : List (Str × α)}, kvs.lookup z = some d → (z, d) ∈ kvs
  | (k, e) :: r, h => by
    rw [List.lookup_cons] at h
    cases q : z == k with
    | true =>
      rw [q] at h
      rw [eq_of_beq q, Option.some.inj h]
      exact List.mem_cons_self
    | false =>
      rw [q] at h
      exact List.mem_cons_of_mem _ (lookup_memS h)
theorem lookup_noS {α : Type} {z : Str} : ∀ {kvs : List (Str × α)}, kvs.lookup z = none → z ∉ kvs.map (·.1)
  | (k, e) :: r, h, m => by
    rw [List.lookup_cons] at h
    cases q : z == k with
    | true => rw [q] at h; cases h
    | false =>
      rw [q] at h
      rcases List.mem_cons.mp m with e | e
      · rw [e, beq_self_eq_true] at q; cases q
      · exact lookup_noS h e
/-- a table of the top: text keys, numbers -/
theorem ktab_of {X : Cx} {G : Gc} {x : Str} {kvs : List (Str × Int)} {a : Addr} (hm : X.mg x = some (.ref a)) (hk : He.dicW X.K a = some (He.keysIn X.w.params (kvs.map (·.1)))) (hv : He.valsB X.K a (kvs.map fun p => (p.1, He.Dv.int p.2)) = true) : KTab X G x (kvs.map fun p => (p.1, D.int p.2)) := by
  obtain ⟨es, n, D⟩ := He.dicW_ok hk
  have hl : es.toList.map He.keyOf = He.keysIn X.w.params (kvs.map (·.1)) := by
    unfold He.dicW at hk
    rw [D.at_] at hk
    dsimp only at hk
    split at hk
    · exact Option.some.inj hk
    · cases hk
  refine ⟨a, es, n, hm, D, fun z => ?_⟩
  rw [lookup_mapD]
  cases q : kvs.lookup z with
  | some i =>
    obtain ⟨u, h1, h2⟩ := He.valsB_ok hv (q := (z, He.Dv.int i)) (List.mem_map.mpr ⟨(z, i), lookup_memS q, rfl⟩)
    exact ⟨u, .int i, h1, h2, fun H own res => rfl⟩
  | none =>
    have nz := lookup_noS q
    have key : ∀ e, e ∈ es.toList → ∃ y t, e.key = .str y t ∧ y ≠ z := fun e he => by
      have m1 : He.keyOf e ∈ He.keysIn X.w.params (kvs.map (·.1)) := by
        rw [← hl]
        exact List.mem_map.mpr ⟨e, he, rfl⟩
      obtain ⟨y, hy, e1⟩ := List.mem_map.mp m1
      unfold He.keyOf at e1
      split at e1
      · rename_i y' t hq
        have e2 := Option.some.inj e1
        have e3 : y = y' := congrArg Prod.fst e2
        exact ⟨y', t, hq, fun z' => nz (by rw [← z', ← e3]; exact hy)⟩
      · cases e1
    show PySem.W.nsIn X.K a z = some none
    unfold PySem.W.nsIn
    rw [D.at_]
    have f1 : es.toList.find? (·.key.isStr z) = none := List.find?_eq_none.mpr fun e he => by
      obtain ⟨y, t, e1, e2⟩ := key e he
      rw [e1]
      simpa [Value.isStr] using e2
    have f2 : es.toList.any (·.refKey) = false := by
      rw [List.any_eq_false]
      intro e he
      obtain ⟨y, t, e1, e2⟩ := key e he
      unfold DictEntry.refKey
      rw [e1]
      simp
    dsimp only
    rw [f1, f2]
    rfl
end Ev
namespace Ev
open L2 PySem PySem.Spec PyProof.Rows

/-! ## a module's variants, each with its facts -/
structure VOk (M : Md) (K : PySem.W.Frag) (mg : Str → Option Value) (V : Vr) : Prop where
  fn : FunD K V.nm V.nm V.args V.body V.sc [] [] (He.ga K V.nm) (fdAt K (He.ga K V.nm))
  scp : FnScope V.N V.ps V.sc
  mgv : mg V.nm = some (.ref (He.ga K V.nm))
  bnd : Binds K (fdAt K (He.ga K V.nm)) V.ps []
  kbi : ∀ n ks prm, V.kw n ks = some prm → KBi K (fdAt K (He.ga K V.nm)) V.ps n ks prm
  cal : ∀ x u, V.cal.lookup x = some u → ∃ U : Vr, M.pg[u]? = some U ∧ U.nm = x
def AllP {α : Type} (P : α → Prop) : List α → Prop
  | [] => True
  | a :: r => P a ∧ AllP P r
theorem AllP.get {α : Type} {P : α → Prop} : ∀ {l : List α}, AllP P l → ∀ {i : Nat} {a : α}, l[i]? = some a → P a
  | [], _, i, a, h => by cases h
  | b :: r, q, 0, a, h => by
    obtain rfl : b = a := by simpa using h
    exact q.1
  | b :: r, q, i + 1, a, h => AllP.get q.2 (i := i) (by simpa using h)
def calB (pg : List Vr) (V : Vr) : Bool := V.cal.all fun p => match pg[p.2]? with
  | some U => U.nm == p.1
  | none => false
theorem calB_ok {pg : List Vr} {V : Vr} (h : calB pg V = true) (x : Str) (u : Nat) (e : V.cal.lookup x = some u) : ∃ U : Vr, pg[u]? = some U ∧ U.nm = x := by
  have h2 := List.all_eq_true.mp h (x, u) (lookup_memS e)
  dsimp only at h2
  cases q : pg[u]? with
  | none => rw [q] at h2; cases h2
  | some U => rw [q] at h2; exact ⟨U, rfl, eq_of_beq h2⟩
theorem kbi_of {K : PySem.W.Frag} {x qual : Str} {params : Arguments} {body : List Stmt} {scope : Scope} {kws : List (Str × V)} {f : Addr} {fd : FuncData} {ps : List Str} {n : Nat} {ks : List Str} {prm : List Nat} (F : FunD K x qual params body scope [] kws f fd)
    (h : ∀ (kV doc pm : Value) (an : Option Addr) (cdv ct : Value) (us ws : List Value), us.length = n → ws.length = ks.length → bindArgs (PySem.W.fnOf x qual params body scope .none kV doc pm an cdv ct) ⟨us, ks.zip ws⟩ = pure (ps.zip (prmOf prm us ws))) : KBi K fd ps n ks prm := by
  obtain ⟨oc, od, dV, kV, doc, pm, an, cdv, ct, osl, rfl, lk, hcd, hD, hK⟩ := F.ex
  rcases hD with ⟨_, rfl⟩ | ⟨e, _⟩
  · exact fun s us ws _ h1 h2 => BindsTo.of_eq (h kV doc pm an cdv ct us ws h1 h2)
  · exact absurd rfl e
section
variable {c : HkD} {w : World} {h : Heap} {K : PySem.W.Frag} {mg : Str → Option Value}
theorem SaysW.vfn (q : SaysW c w h K) {x : Str} {a : Arguments} {b : List Stmt} {s : Scope} (hd : (⟨(x, none), x, x, a, b, s, [], []⟩ : He.DefD) ∈ c.fn) : FunD K x x a b s [] [] (He.ga K x) (fdAt K (He.ga K x)) := by
  obtain ⟨fd, F⟩ := q.dcl hd
  have F' : FunD K x x a b s [] [] (He.ga K x) fd := F
  rw [fdAt_eq F']
  exact F'
theorem SaysW.vok (q : SaysW c w h K) (KX : K.In h) (hG : h.Ns mainGlobals mg) {M : Md} {V : Vr} (hd : (⟨(V.nm, none), V.nm, V.nm, V.args, V.body, V.sc, [], []⟩ : He.DefD) ∈ c.fn) (hf : He.Fa.glo V.nm ∈ c.fa) (hs : FnScope V.N V.ps V.sc) (hc : calB M.pg V = true)
    (hb : ∀ (kV doc pm : Value) (an : Option Addr) (cdv ct : Value) (us : List Value), us.length = V.ps.length → bindArgs (PySem.W.fnOf V.nm V.nm V.args V.body V.sc .none kV doc pm an cdv ct) ⟨us, []⟩ = pure (V.ps.zip us))
    (hk : ∀ n ks prm, V.kw n ks = some prm → KBi K (fdAt K (He.ga K V.nm)) V.ps n ks prm) : VOk M K mg V :=
  ⟨q.vfn hd, hs, He.glo_ok KX hG (q.fac hf), (q.vfn hd).bindsN hb, hk, calB_ok hc⟩
end
end Ev
namespace K08
open L2 PySem PySem.Spec PyProof.Rows
def topS (i : Nat) : Stmt := PySem.Challenge.pw_pagestrue_k08_whole_webs_judged.main.body.getD i (.Pass ⟨0, 0, 0, 0⟩)
/-- 0: is_integer -/
def v0 : Ev.Vr := { nm := "is_integer", args := defArgs (topS 3), body := defBody (topS 3), sc := defScope (topS 3), N := (["thing"] : List PySem.Str), ps := [("thing" : PySem.Str)], cal := [], cells := [], kw := fun _ _ => none, gd := false, fz := false, lam := false, ndv := [], nds := [] }
/-- 1: is_number -/
def v1 : Ev.Vr := { nm := "is_number", args := defArgs (topS 4), body := defBody (topS 4), sc := defScope (topS 4), N := (["thing"] : List PySem.Str), ps := [("thing" : PySem.Str)], cal := [("is_integer", 0)], cells := [], kw := fun _ _ => none, gd := false, fz := false, lam := false, ndv := [], nds := [] }
/-- 2: is_list -/
def v2 : Ev.Vr := { nm := "is_list", args := defArgs (topS 5), body := defBody (topS 5), sc := defScope (topS 5), N := (["thing"] : List PySem.Str), ps := [("thing" : PySem.Str)], cal := [], cells := [], kw := fun _ _ => none, gd := false, fz := false, lam := false, ndv := [], nds := [] }
/-- 3: is_name -/
def v3 : Ev.Vr := { nm := "is_name", args := defArgs (topS 6), body := defBody (topS 6), sc := defScope (topS 6), N := (["thing", "sign"] : List PySem.Str), ps := [("thing" : PySem.Str)], cal := [], cells := [], kw := fun _ _ => none, gd := false, fz := false, lam := false, ndv := [], nds := [] }
/-- 4: as_row -/
def v4 : Ev.Vr := { nm := "as_row", args := defArgs (topS 13), body := defBody (topS 13), sc := defScope (topS 13), N := (["thing", "one"] : List PySem.Str), ps := [("thing" : PySem.Str)], cal := [("is_list", 2), ("is_name", 3), ("is_number", 1)], cells := [], kw := fun _ _ => none, gd := false, fz := false, lam := false, ndv := [], nds := [] }
/-- 5: named_rows -/
def v5 : Ev.Vr := { nm := "named_rows", args := defArgs (topS 14), body := defBody (topS 14), sc := defScope (topS 14), N := (["row"] : List PySem.Str), ps := [("row" : PySem.Str)], cal := [], cells := [], kw := fun _ _ => none, gd := false, fz := false, lam := false, ndv := [], nds := [] }
/-- 6: is_kind -/
def v6 : Ev.Vr := { nm := "is_kind", args := defArgs (topS 15), body := defBody (topS 15), sc := defScope (topS 15), N := (["rows", "row", "one"] : List PySem.Str), ps := [("rows" : PySem.Str), ("row" : PySem.Str)], cal := [("named_rows", 5)], cells := [], kw := fun _ _ => none, gd := false, fz := false, lam := false, ndv := [], nds := [] }
/-- 7: row_fault -/
def v7 : Ev.Vr := { nm := "row_fault", args := defArgs (topS 16), body := defBody (topS 16), sc := defScope (topS 16), N := (["rows", "thing", "row", "one"] : List PySem.Str), ps := [("rows" : PySem.Str), ("thing" : PySem.Str)], cal := [("as_row", 4), ("is_kind", 6), ("named_rows", 5)], cells := [], kw := fun _ _ => none, gd := false, fz := false, lam := false, ndv := [], nds := [] }
/-- 8: rows_and_fault -/
def v8 : Ev.Vr := { nm := "rows_and_fault", args := defArgs (topS 17), body := defBody (topS 17), sc := defScope (topS 17), N := (["thing", "rows", "known", "index", "one", "why", "row"] : List PySem.Str), ps := [("thing" : PySem.Str)], cal := [("as_row", 4), ("is_list", 2), ("row_fault", 7)], cells := [(59, 19)], kw := fun _ _ => none, gd := false, fz := false, lam := false, ndv := [("known" : PySem.Str)], nds := [(59, 23)] }
/-- 9: web_fault -/
def v9 : Ev.Vr := { nm := "web_fault", args := defArgs (topS 18), body := defBody (topS 18), sc := defScope (topS 18), N := (["thing"] : List PySem.Str), ps := [("thing" : PySem.Str)], cal := [("rows_and_fault", 8)], cells := [], kw := fun n ks => if n = 0 ∧ ks = [("thing" : PySem.Str)] then some [0] else none, gd := false, fz := false, lam := false, ndv := [], nds := [] }
/-- 10: is_web -/
def v10 : Ev.Vr := { nm := "is_web", args := defArgs (topS 19), body := defBody (topS 19), sc := defScope (topS 19), N := (["thing"] : List PySem.Str), ps := [("thing" : PySem.Str)], cal := [("web_fault", 9)], cells := [], kw := fun n ks => if n = 0 ∧ ks = [("thing" : PySem.Str)] then some [0] else none, gd := false, fz := false, lam := false, ndv := [], nds := [] }
/-- 11: checked_web -/
def v11 : Ev.Vr := { nm := "checked_web", args := defArgs (topS 20), body := defBody (topS 20), sc := defScope (topS 20), N := (["web", "rows", "fault"] : List PySem.Str), ps := [("web" : PySem.Str)], cal := [("rows_and_fault", 8)], cells := [], kw := fun _ _ => none, gd := false, fz := false, lam := false, ndv := [], nds := [] }
/-- 12: put_in -/
def v12 : Ev.Vr := { nm := "put_in", args := defArgs (topS 21), body := defBody (topS 21), sc := defScope (topS 21), N := (["rows", "row"] : List PySem.Str), ps := [("rows" : PySem.Str), ("row" : PySem.Str)], cal := [], cells := [], kw := fun _ _ => none, gd := false, fz := false, lam := false, ndv := [], nds := [] }
/-- 13: put_row -/
def v13 : Ev.Vr := { nm := "put_row", args := defArgs (topS 22), body := defBody (topS 22), sc := defScope (topS 22), N := (["web", "row", "rows", "index"] : List PySem.Str), ps := [("web" : PySem.Str), ("row" : PySem.Str)], cal := [("as_row", 4), ("checked_web", 11), ("put_in", 12), ("row_fault", 7)], cells := [], kw := fun n ks => if n = 0 ∧ ks = [("row" : PySem.Str), ("web" : PySem.Str)] then some [1, 0] else none, gd := false, fz := false, lam := false, ndv := [], nds := [] }
/-- 14: _law_well -/
def v14 : Ev.Vr := { nm := "_law_well", args := defArgs (topS 24), body := defBody (topS 24), sc := defScope (topS 24), N := (["_law_script", "_law_place", "_law_cell", "_law_mixed_here", "_law_at", "_law_one"] : List PySem.Str), ps := [("_law_script" : PySem.Str), ("_law_place" : PySem.Str)], cal := [], cells := [(95, 11)], kw := fun _ _ => none, gd := false, fz := false, lam := false, ndv := [], nds := [] }
/-- 15: _law_draw -/
def v15 : Ev.Vr := { nm := "_law_draw", args := defArgs (topS 25), body := defBody (topS 25), sc := defScope (topS 25), N := (["_law_well_here", "_law_many", "_law_spread", "_law_digit"] : List PySem.Str), ps := [("_law_well_here" : PySem.Str), ("_law_many" : PySem.Str)], cal := [], cells := [], kw := fun _ _ => none, gd := false, fz := false, lam := false, ndv := [], nds := [] }
/-- 16: _law_pick -/
def v16 : Ev.Vr := { nm := "_law_pick", args := defArgs (topS 26), body := defBody (topS 26), sc := defScope (topS 26), N := (["_law_well_here", "_law_some"] : List PySem.Str), ps := [("_law_well_here" : PySem.Str), ("_law_some" : PySem.Str)], cal := [("_law_draw", 15)], cells := [], kw := fun _ _ => none, gd := false, fz := false, lam := false, ndv := [], nds := [] }
/-- 17: _law_mixed -/
def v17 : Ev.Vr := { nm := "_law_mixed", args := defArgs (topS 27), body := defBody (topS 27), sc := defScope (topS 27), N := (["_law_well_here", "_law_some", "_law_left", "_law_k"] : List PySem.Str), ps := [("_law_well_here" : PySem.Str), ("_law_some" : PySem.Str)], cal := [("_law_draw", 15)], cells := [(107, 16)], kw := fun _ _ => none, gd := false, fz := false, lam := false, ndv := [], nds := [] }
/-- 18: _law_same -/
def v18 : Ev.Vr := { nm := "_law_same", args := defArgs (topS 28), body := defBody (topS 28), sc := defScope (topS 28), N := (["_law_found", "_law_due", "_law_one", "_law_other"] : List PySem.Str), ps := [("_law_found" : PySem.Str), ("_law_due" : PySem.Str)], cal := [("_law_same", 18)], cells := [], kw := fun _ _ => none, gd := false, fz := false, lam := false, ndv := [], nds := [] }
/-- 19: _law_loose -/
def v19 : Ev.Vr := { nm := "_law_loose", args := defArgs (topS 29), body := defBody (topS 29), sc := defScope (topS 29), N := (["_law_well_here", "_law_thing", "_law_found", "_law_one", "_law_key"] : List PySem.Str), ps := [("_law_well_here" : PySem.Str), ("_law_thing" : PySem.Str)], cal := [("_law_draw", 15), ("_law_loose", 19), ("_law_mixed", 17)], cells := [], kw := fun _ _ => none, gd := false, fz := false, lam := false, ndv := [], nds := [] }
/-- 20: _law_spoiled -/
def v20 : Ev.Vr := { nm := "_law_spoiled", args := defArgs (topS 30), body := defBody (topS 30), sc := defScope (topS 30), N := (["_law_thing", "_law_key", "_law_part"] : List PySem.Str), ps := [("_law_thing" : PySem.Str)], cal := [("_law_spoiled", 20)], cells := [], kw := fun _ _ => none, gd := false, fz := false, lam := false, ndv := [], nds := [] }
/-- 21: _law_g_is_int -/
def v21 : Ev.Vr := { nm := "_law_g_is_int", args := defArgs (topS 31), body := defBody (topS 31), sc := defScope (topS 31), N := (["_law_thing"] : List PySem.Str), ps := [("_law_thing" : PySem.Str)], cal := [], cells := [], kw := fun _ _ => none, gd := false, fz := false, lam := false, ndv := [], nds := [] }
/-- 22: _law_g_is_name -/
def v22 : Ev.Vr := { nm := "_law_g_is_name", args := defArgs (topS 32), body := defBody (topS 32), sc := defScope (topS 32), N := (["_law_thing", "_law_sign"] : List PySem.Str), ps := [("_law_thing" : PySem.Str)], cal := [], cells := [], kw := fun _ _ => none, gd := false, fz := false, lam := false, ndv := [], nds := [] }
/-- 23: _law_g_form -/
def v23 : Ev.Vr := { nm := "_law_g_form", args := defArgs (topS 33), body := defBody (topS 33), sc := defScope (topS 33), N := (["_law_thing", "_law_one"] : List PySem.Str), ps := [("_law_thing" : PySem.Str)], cal := [("_law_g_is_int", 21), ("_law_g_is_name", 22)], cells := [], kw := fun _ _ => none, gd := false, fz := false, lam := false, ndv := [], nds := [] }
/-- 24: _law_g_named -/
def v24 : Ev.Vr := { nm := "_law_g_named", args := defArgs (topS 34), body := defBody (topS 34), sc := defScope (topS 34), N := (["_law_row"] : List PySem.Str), ps := [("_law_row" : PySem.Str)], cal := [], cells := [], kw := fun _ _ => none, gd := false, fz := false, lam := false, ndv := [], nds := [] }
/-- 25: _law_g_why -/
def v25 : Ev.Vr := { nm := "_law_g_why", args := defArgs (topS 35), body := defBody (topS 35), sc := defScope (topS 35), N := (["_law_rows", "_law_thing", "_law_row", "_law_some", "_law_kinds", "_law_one"] : List PySem.Str), ps := [("_law_rows" : PySem.Str), ("_law_thing" : PySem.Str)], cal := [("_law_g_form", 23), ("_law_g_named", 24)], cells := [], kw := fun _ _ => none, gd := false, fz := false, lam := false, ndv := [], nds := [] }
/-- 26: _law_g_fault -/
def v26 : Ev.Vr := { nm := "_law_g_fault", args := defArgs (topS 36), body := defBody (topS 36), sc := defScope (topS 36), N := (["_law_thing", "_law_rows", "_law_index", "_law_one", "_law_why"] : List PySem.Str), ps := [("_law_thing" : PySem.Str)], cal := [("_law_g_form", 23), ("_law_g_why", 25)], cells := [(170, 16)], kw := fun _ _ => none, gd := false, fz := false, lam := false, ndv := [], nds := [] }
/-- 27: _law_g_parts -/
def v27 : Ev.Vr := { nm := "_law_g_parts", args := defArgs (topS 37), body := defBody (topS 37), sc := defScope (topS 37), N := (["_law_rows", "_law_index", "_law_row"] : List PySem.Str), ps := [("_law_rows" : PySem.Str)], cal := [], cells := [], kw := fun _ _ => none, gd := false, fz := false, lam := false, ndv := [], nds := [] }
/-- 28: _law_g_row -/
def v28 : Ev.Vr := { nm := "_law_g_row", args := defArgs (topS 38), body := defBody (topS 38), sc := defScope (topS 38), N := (["_law_well_here", "_law_rows", "_law_parts", "_law_asked", "_law_way", "_law_name", "_law_many", "_law_some", "_law_pair", "_law_index", "_law_row", "_law_k"] : List PySem.Str), ps := [("_law_well_here" : PySem.Str), ("_law_rows" : PySem.Str)], cal := [("_law_draw", 15), ("_law_g_parts", 27), ("_law_mixed", 17), ("_law_pick", 16)], cells := [], kw := fun _ _ => none, gd := false, fz := false, lam := false, ndv := [], nds := [] }
/-- 29: _law_g_drawn -/
def v29 : Ev.Vr := { nm := "_law_g_drawn", args := defArgs (topS 39), body := defBody (topS 39), sc := defScope (topS 39), N := (["_law_well_here", "_law_most", "_law_rows", "_law_turn", "_law_row"] : List PySem.Str), ps := [("_law_well_here" : PySem.Str), ("_law_most" : PySem.Str)], cal := [("_law_draw", 15), ("_law_g_row", 28)], cells := [(194, 16)], kw := fun _ _ => none, gd := false, fz := true, lam := false, ndv := [], nds := [] }
/-- 30: _law_g_bent_row -/
def v30 : Ev.Vr := { nm := "_law_g_bent_row", args := defArgs (topS 40), body := defBody (topS 40), sc := defScope (topS 40), N := (["_law_well_here", "_law_rows", "_law_at", "_law_row", "_law_many", "_law_some", "_law_odd", "_law_name", "_law_place"] : List PySem.Str), ps := [("_law_well_here" : PySem.Str), ("_law_rows" : PySem.Str), ("_law_at" : PySem.Str)], cal := [("_law_draw", 15), ("_law_pick", 16)], cells := [(201, 16)], kw := fun _ _ => none, gd := false, fz := false, lam := false, ndv := [], nds := [] }
/-- 31: _law_g_bent -/
def v31 : Ev.Vr := { nm := "_law_g_bent", args := defArgs (topS 41), body := defBody (topS 41), sc := defScope (topS 41), N := (["_law_well_here", "_law_rows", "_law_way", "_law_at", "_law_other", "_law_found"] : List PySem.Str), ps := [("_law_well_here" : PySem.Str), ("_law_rows" : PySem.Str)], cal := [("_law_draw", 15), ("_law_g_bent_row", 30), ("_law_pick", 16)], cells := [(224, 17)], kw := fun _ _ => none, gd := false, fz := true, lam := false, ndv := [], nds := [] }
/-- 32: _law_judged_right -/
def v32 : Ev.Vr := { nm := "_law_judged_right", args := defArgs (topS 43), body := defBody (topS 43), sc := defScope (topS 43), N := (["_law_well_here", "_law_thing", "_law_due", "_law_passed", "_law_was", "_law_found", "_law_wanted"] : List PySem.Str), ps := [("_law_well_here" : PySem.Str), ("_law_thing" : PySem.Str)], cal := [("_law_g_fault", 26), ("_law_loose", 19), ("_law_same", 18), ("is_web", 10), ("put_row", 13), ("web_fault", 9)], cells := [], kw := fun _ _ => none, gd := true, fz := true, lam := true, ndv := [], nds := [] }
/-- 33: _law_put_right -/
def v33 : Ev.Vr := { nm := "_law_put_right", args := defArgs (topS 44), body := defBody (topS 44), sc := defScope (topS 44), N := (["_law_well_here", "_law_rows", "_law_some", "_law_longer", "_law_thing", "_law_why", "_law_passed", "_law_held", "_law_found", "_law_row", "_law_was", "_law_due"] : List PySem.Str) ++ (["_law_told", "_law_k"] : List PySem.Str), ps := [("_law_well_here" : PySem.Str), ("_law_rows" : PySem.Str)], cal := [("_law_g_bent_row", 30), ("_law_g_form", 23), ("_law_g_row", 28), ("_law_g_why", 25), ("_law_loose", 35), ("_law_pick", 16), ("_law_same", 18), ("_law_spoiled", 20), ("put_row", 13)], cells := [(245, 16), (259, 24)], kw := fun _ _ => none, gd := true, fz := true, lam := true, ndv := [], nds := [] }
/-- 34: law -/
def v34 : Ev.Vr := { nm := "law", args := defArgs (topS 45), body := defBody (topS 45), sc := defScope (topS 45), N := (["_law_script", "_law_turn", "_law_rows", "_law_odds", "_law_well_here", "_law_k", "_law_thing", "_law_odd", "_law_why", "_law_again"] : List PySem.Str), ps := [("_law_script" : PySem.Str)], cal := [("_law_g_bent", 31), ("_law_g_drawn", 29), ("_law_judged_right", 32), ("_law_put_right", 33), ("_law_same", 18), ("_law_well", 14), ("put_row", 13), ("web_fault", 9)], cells := [(276, 16), (278, 16)], kw := fun _ _ => none, gd := true, fz := false, lam := false, ndv := [], nds := [] }
/-- 35: _law_looseK -/
def v35 : Ev.Vr := { nm := "_law_loose", args := defArgs (topS 29), body := defBody (topS 29), sc := defScope (topS 29), N := (["_law_well_here", "_law_thing", "_law_found", "_law_one", "_law_key"] : List PySem.Str), ps := [("_law_well_here" : PySem.Str), ("_law_thing" : PySem.Str)], cal := [("_law_draw", 15), ("_law_loose", 19), ("_law_mixed", 17)], cells := [(124, 17)], kw := fun _ _ => none, gd := false, fz := false, lam := false, ndv := [], nds := [] }
def pg : List Ev.Vr := ([v0, v1, v2, v3, v4, v5, v6, v7, v8, v9, v10, v11] : List Ev.Vr) ++ ([v12, v13, v14, v15, v16, v17, v18, v19, v20, v21, v22, v23] : List Ev.Vr) ++ ([v24, v25, v26, v27, v28, v29, v30, v31, v32, v33, v34, v35] : List Ev.Vr)
def gl (x : PySem.Str) : Option Ev.D := if x = "bool" then some (.ty "bool") else if x = "dict" then some (.ty "dict") else if x = "int" then some (.ty "int") else if x = "list" then some (.ty "list") else if x = "str" then some (.ty "str") else if x = "tuple" then some (.ty "tuple") else if x = "FIRST" then some (.str "abcdefghijklmnopqrstuvwxyz") else if x = "LATER" then some (.str "abcdefghijklmnopqrstuvwxyz0123456789") else none
def bi (x : PySem.Str) : Bool := [("ValueError" : PySem.Str), ("abs" : PySem.Str), ("all" : PySem.Str), ("any" : PySem.Str), ("bool" : PySem.Str), ("dict" : PySem.Str), ("enumerate" : PySem.Str), ("int" : PySem.Str), ("isinstance" : PySem.Str), ("len" : PySem.Str), ("list" : PySem.Str), ("range" : PySem.Str), ("repr" : PySem.Str), ("str" : PySem.Str), ("sum" : PySem.Str), ("super" : PySem.Str), ("tuple" : PySem.Str), ("zip" : PySem.Str)].contains x
def exc (x : PySem.Str) : Option Nat := if x = "BadWeb" then some 0 else if x = "BadRow" then some 1 else none
def gdc (x : PySem.Str) : Option (List (PySem.Str × Ev.D)) := if x = "FORMS" then some [("made", .int 3), ("asked", .int 3), ("either", .int 4), ("given", .int 2)] else none
def M : Ev.Md := { pg := pg, gl := gl, bi := bi, exc := exc, xf := fun _ => 1, wh := 0, fuel := 40, gdc := gdc, hook := fun _ _ _ _ _ => none }
end K08
namespace K08
open L2 PySem PySem.Spec PyProof.Rows
def dd (x : Str) (i : Nat) : He.DefD := ⟨(x, none), x, x, defArgs (topS i), defBody (topS i), defScope (topS i), [], []⟩
def fn : List He.DefD := ([dd "is_integer" 3, dd "is_number" 4, dd "is_list" 5, dd "is_name" 6, dd "as_row" 13, dd "named_rows" 14, dd "is_kind" 15, dd "row_fault" 16, dd "rows_and_fault" 17, dd "web_fault" 18, dd "is_web" 19, dd "checked_web" 20, dd "put_in" 21, dd "put_row" 22, dd "_law_well" 24, dd "_law_draw" 25, dd "_law_pick" 26, dd "_law_mixed" 27, dd "_law_same" 28, dd "_law_loose" 29, dd "_law_spoiled" 30, dd "_law_g_is_int" 31, dd "_law_g_is_name" 32, dd "_law_g_form" 33, dd "_law_g_named" 34] : List He.DefD) ++ ([dd "_law_g_why" 35, dd "_law_g_fault" 36, dd "_law_g_parts" 37, dd "_law_g_row" 38, dd "_law_g_drawn" 39, dd "_law_g_bent_row" 40, dd "_law_g_bent" 41, dd "_law_met" 42, dd "_law_judged_right" 43, dd "_law_put_right" 44, dd "law" 45] : List He.DefD)
def fa : List He.Fa := ([.glo "is_integer", .glo "is_number", .glo "is_list", .glo "is_name", .glo "as_row", .glo "named_rows", .glo "is_kind", .glo "row_fault", .glo "rows_and_fault", .glo "web_fault", .glo "is_web", .glo "checked_web", .glo "put_in", .glo "put_row", .glo "_law_well", .glo "_law_draw", .glo "_law_pick", .glo "_law_mixed", .glo "_law_same", .glo "_law_loose", .glo "_law_spoiled", .glo "_law_g_is_int", .glo "_law_g_is_name", .glo "_law_g_form", .glo "_law_g_named"] : List He.Fa) ++ ([.glo "_law_g_why", .glo "_law_g_fault", .glo "_law_g_parts", .glo "_law_g_row", .glo "_law_g_drawn", .glo "_law_g_bent_row", .glo "_law_g_bent", .glo "_law_met", .glo "_law_judged_right", .glo "_law_put_right", .glo "law", .glo "PageError", .glo "FORMS", .glo "BadWeb", .glo "BadRow", .free "ValueError", .free "abs", .free "all", .free "any", .free "bool", .free "dict", .free "enumerate", .free "int", .free "isinstance", .free "len", .free "list"] : List He.Fa) ++ ([.free "range", .free "repr", .free "str", .free "sum", .free "super", .free "tuple", .free "zip", .str "FIRST" "abcdefghijklmnopqrstuvwxyz", .str "LATER" "abcdefghijklmnopqrstuvwxyz0123456789"] : List He.Fa)
def tf : List He.Defn := [("_law_judged_right", none), ("_law_put_right", none)]
def lo : List PySem.Str := (["is_integer", "is_number", "is_list", "is_name", "PageError", "BadWeb", "BadRow", "as_row", "named_rows", "is_kind", "row_fault", "rows_and_fault", "web_fault", "is_web", "checked_web", "put_in", "put_row", "_law_well", "_law_draw", "_law_pick", "_law_mixed", "_law_same", "_law_loose", "_law_spoiled", "_law_g_is_int"] : List PySem.Str) ++ (["_law_g_is_name", "_law_g_form", "_law_g_named", "_law_g_why", "_law_g_fault", "_law_g_parts", "_law_g_row", "_law_g_drawn", "_law_g_bent_row", "_law_g_bent", "_law_met", "_law_judged_right", "_law_put_right", "FIRST", "LATER", "FORMS"] : List PySem.Str)
def mthS (st : Stmt) : Stmt := match st with
  | .ClassDef _ _ _ body _ _ _ _ _ _ _ => body.getD 0 (.Pass ⟨0, 0, 0, 0⟩)
  | _ => .Pass ⟨0, 0, 0, 0⟩
def bad0 : Ev.MthD := ⟨"BadWeb", "__init__", "BadWeb.__init__", defArgs (mthS (topS 9)), defBody (mthS (topS 9)), defScope (mthS (topS 9)), "index"⟩
def bad1 : Ev.MthD := ⟨"BadRow", "__init__", "BadRow.__init__", defArgs (mthS (topS 10)), defBody (mthS (topS 10)), defScope (mthS (topS 10)), "row"⟩
def forms : List (Str × Int) := [("made", 3), ("asked", 3), ("either", 4), ("given", 2)]
def file : Str := PySem.Challenge.pw_pagestrue_k08_whole_webs_judged.main.file
def excB (K : PySem.W.Frag) (C : Addr) : Bool := PySem.W.keepIn K (.ref C) && (decide (PySem.W.subIn K (.ref C) (.type "BaseException") = some true) && (decide (PySem.W.typeIn K (.ref C) = some (.type "type")) && xfB K C))
def ex (K : PySem.W.Frag) : Bool :=
  (K.all fun q => match q.2.cls with | .type c => !decide (c = "list") | _ => true) && ((K.lookup sysModules).isSome && (!decide ((He.cT K ("_law_judged_right", none)).2 = (He.cT K ("_law_put_right", none)).2) &&
    (He.valsB K (He.ga K "FORMS") (forms.map fun p => (p.1, He.Dv.int p.2)) && (Ev.xcB K bad0 file && (Ev.xcB K bad1 file && (excB K (He.ga K "BadWeb") && (excB K (He.ga K "BadRow") &&
      (decide (PySem.W.exmOne K (.ref (He.ga K "BadWeb")) (.ref (He.ga K "BadWeb")) = some true) && (decide (PySem.W.exmOne K (.ref (He.ga K "BadWeb")) (.ref (He.ga K "BadRow")) = some false) &&
        (decide (PySem.W.exmOne K (.ref (He.ga K "BadRow")) (.ref (He.ga K "BadWeb")) = some false) && decide (PySem.W.exmOne K (.ref (He.ga K "BadRow")) (.ref (He.ga K "BadRow")) = some true)))))))))))
def cfg : Ev.HkD := { n := 4, fa := fa, fn := fn, ts := [(fun K => He.ga K "FORMS", forms.map (·.1))], tf := tf, ms := [bad0, bad1], ex := ex }
abbrev R : PySem.W.OpenRow := PySem.W.OpenLaw.row PySem.Challenge.rw_pagestrue_k08_whole_webs_judged
def ob (s : PySem.W.SharedT) : Ev.AlW := cfg.obs (HandSHeadRun.getT s)
theorem ob_eq (s : PySem.W.SharedT) : ob s = cfg.hook.obs s.abs := Ev.HkD.obs_eq (HandSHeadRun.getT_eq s)
theorem run0 (w : World) : HandSHeadRun.RunEq R (PySem.W.view R.prog [45]) cfg.hook ob 6000 lo (w.withFollow "special-get-raises" false) := by
  intro os
  kernel_rfl
theorem run1 (w : World) : HandSHeadRun.RunEq R (PySem.W.view R.prog [45]) cfg.hook ob 6000 lo (w.withFollow "special-get-raises" true) := by
  intro os
  kernel_rfl
theorem run (w : World) : HandSHeadRun.RunEq R (PySem.W.view R.prog [45]) cfg.hook ob 6000 lo w := PySem.W.byRow2 "special-get-raises" run0 run1 w
end K08
namespace K08
open L2 PySem PySem.Spec PyProof.Rows
abbrev prog : Program := PySem.Challenge.rw_pagestrue_k08_whole_webs_judged.prog
def hds : List Ev.Hd := [⟨"BadWeb", 0, "web", "index", 0⟩, ⟨"BadRow", 1, "row", "row", 0⟩]
def MM : Ev.Md := { M with hook := Ev.metHook M "_law_met" "told" hds }
def nmv (v : Nat) : Str := match pg[v]? with
  | some V => V.nm
  | none => "law"
def xfN (c : Nat) : Str := if c = 0 then "index" else "row"
def cnN (c : Nat) : Str := if c = 0 then "BadWeb" else "BadRow"
def Gk (w : World) (K : PySem.W.Frag) (mg : Str → Option Value) (base : Heap) : Ev.Gc :=
  { prog := prog, w := w, K := K, mg := mg, base := base, fa := fun v => He.ga K (nmv v), ca := fun c => He.ga K (cnN c), xf := fun c => [xfN c], T := tf.map fun p => ((He.cT K p).2, (p.1 ++ ".<locals>.") ++ "<lambda>") }
section
variable {w : World} {h : Heap} {K : PySem.W.Frag} {mg : Str → Option Value}
theorem ok0 (q : Ev.SaysW cfg w h K) (KX : K.In h) (hG : h.Ns mainGlobals mg) : Ev.VOk MM K mg v0 := q.vok KX hG (List.mem_of_getElem? (i := 0) rfl) (List.mem_of_getElem? (i := 0) rfl) ⟨rfl, rfl, rfl, by decide +kernel, rfl, by decide +kernel, by decide +kernel⟩ (by decide +kernel)
  (fun _ _ _ _ _ _ us hl => match us, hl with | [_], _ => rfl) (fun _ _ _ e => by cases e)
theorem ok1 (q : Ev.SaysW cfg w h K) (KX : K.In h) (hG : h.Ns mainGlobals mg) : Ev.VOk MM K mg v1 := q.vok KX hG (List.mem_of_getElem? (i := 1) rfl) (List.mem_of_getElem? (i := 1) rfl) ⟨rfl, rfl, rfl, by decide +kernel, rfl, by decide +kernel, by decide +kernel⟩ (by decide +kernel)
  (fun _ _ _ _ _ _ us hl => match us, hl with | [_], _ => rfl) (fun _ _ _ e => by cases e)
theorem ok2 (q : Ev.SaysW cfg w h K) (KX : K.In h) (hG : h.Ns mainGlobals mg) : Ev.VOk MM K mg v2 := q.vok KX hG (List.mem_of_getElem? (i := 2) rfl) (List.mem_of_getElem? (i := 2) rfl) ⟨rfl, rfl, rfl, by decide +kernel, rfl, by decide +kernel, by decide +kernel⟩ (by decide +kernel)
  (fun _ _ _ _ _ _ us hl => match us, hl with | [_], _ => rfl) (fun _ _ _ e => by cases e)
theorem ok3 (q : Ev.SaysW cfg w h K) (KX : K.In h) (hG : h.Ns mainGlobals mg) : Ev.VOk MM K mg v3 := q.vok KX hG (List.mem_of_getElem? (i := 3) rfl) (List.mem_of_getElem? (i := 3) rfl) ⟨rfl, rfl, rfl, by decide +kernel, rfl, by decide +kernel, by decide +kernel⟩ (by decide +kernel)
  (fun _ _ _ _ _ _ us hl => match us, hl with | [_], _ => rfl) (fun _ _ _ e => by cases e)
theorem ok4 (q : Ev.SaysW cfg w h K) (KX : K.In h) (hG : h.Ns mainGlobals mg) : Ev.VOk MM K mg v4 := q.vok KX hG (List.mem_of_getElem? (i := 4) rfl) (List.mem_of_getElem? (i := 4) rfl) ⟨rfl, rfl, rfl, by decide +kernel, rfl, by decide +kernel, by decide +kernel⟩ (by decide +kernel)
  (fun _ _ _ _ _ _ us hl => match us, hl with | [_], _ => rfl) (fun _ _ _ e => by cases e)
theorem ok5 (q : Ev.SaysW cfg w h K) (KX : K.In h) (hG : h.Ns mainGlobals mg) : Ev.VOk MM K mg v5 := q.vok KX hG (List.mem_of_getElem? (i := 5) rfl) (List.mem_of_getElem? (i := 5) rfl) ⟨rfl, rfl, rfl, by decide +kernel, rfl, by decide +kernel, by decide +kernel⟩ (by decide +kernel)
  (fun _ _ _ _ _ _ us hl => match us, hl with | [_], _ => rfl) (fun _ _ _ e => by cases e)
theorem ok6 (q : Ev.SaysW cfg w h K) (KX : K.In h) (hG : h.Ns mainGlobals mg) : Ev.VOk MM K mg v6 := q.vok KX hG (List.mem_of_getElem? (i := 6) rfl) (List.mem_of_getElem? (i := 6) rfl) ⟨rfl, rfl, rfl, by decide +kernel, rfl, by decide +kernel, by decide +kernel⟩ (by decide +kernel)
  (fun _ _ _ _ _ _ us hl => match us, hl with | [_, _], _ => rfl) (fun _ _ _ e => by cases e)
theorem ok7 (q : Ev.SaysW cfg w h K) (KX : K.In h) (hG : h.Ns mainGlobals mg) : Ev.VOk MM K mg v7 := q.vok KX hG (List.mem_of_getElem? (i := 7) rfl) (List.mem_of_getElem? (i := 7) rfl) ⟨rfl, rfl, rfl, by decide +kernel, rfl, by decide +kernel, by decide +kernel⟩ (by decide +kernel)
  (fun _ _ _ _ _ _ us hl => match us, hl with | [_, _], _ => rfl) (fun _ _ _ e => by cases e)
theorem ok8 (q : Ev.SaysW cfg w h K) (KX : K.In h) (hG : h.Ns mainGlobals mg) : Ev.VOk MM K mg v8 := q.vok KX hG (List.mem_of_getElem? (i := 8) rfl) (List.mem_of_getElem? (i := 8) rfl) ⟨rfl, rfl, rfl, by decide +kernel, rfl, by decide +kernel, by decide +kernel⟩ (by decide +kernel)
  (fun _ _ _ _ _ _ us hl => match us, hl with | [_], _ => rfl) (fun _ _ _ e => by cases e)
theorem ok9 (q : Ev.SaysW cfg w h K) (KX : K.In h) (hG : h.Ns mainGlobals mg) : Ev.VOk MM K mg v9 := q.vok KX hG (List.mem_of_getElem? (i := 9) rfl) (List.mem_of_getElem? (i := 9) rfl) ⟨rfl, rfl, rfl, by decide +kernel, rfl, by decide +kernel, by decide +kernel⟩ (by decide +kernel)
  (fun _ _ _ _ _ _ us hl => match us, hl with | [_], _ => rfl) (fun n ks prm e => by
    change (if n = 0 ∧ ks = [("thing" : PySem.Str)] then some [0] else none) = some prm at e
    split at e
    · rename_i z
      obtain ⟨rfl, rfl⟩ := z
      cases e
      exact Ev.kbi_of (q.vfn (List.mem_of_getElem? (i := 9) rfl)) fun _ _ _ _ _ _ us ws h1 h2 => match us, ws, h1, h2 with | [], [_], _, _ => rfl
    · cases e)
theorem ok10 (q : Ev.SaysW cfg w h K) (KX : K.In h) (hG : h.Ns mainGlobals mg) : Ev.VOk MM K mg v10 := q.vok KX hG (List.mem_of_getElem? (i := 10) rfl) (List.mem_of_getElem? (i := 10) rfl) ⟨rfl, rfl, rfl, by decide +kernel, rfl, by decide +kernel, by decide +kernel⟩ (by decide +kernel)
  (fun _ _ _ _ _ _ us hl => match us, hl with | [_], _ => rfl) (fun n ks prm e => by
    change (if n = 0 ∧ ks = [("thing" : PySem.Str)] then some [0] else none) = some prm at e
    split at e
    · rename_i z
      obtain ⟨rfl, rfl⟩ := z
      cases e
      exact Ev.kbi_of (q.vfn (List.mem_of_getElem? (i := 10) rfl)) fun _ _ _ _ _ _ us ws h1 h2 => match us, ws, h1, h2 with | [], [_], _, _ => rfl
    · cases e)
theorem ok11 (q : Ev.SaysW cfg w h K) (KX : K.In h) (hG : h.Ns mainGlobals mg) : Ev.VOk MM K mg v11 := q.vok KX hG (List.mem_of_getElem? (i := 11) rfl) (List.mem_of_getElem? (i := 11) rfl) ⟨rfl, rfl, rfl, by decide +kernel, rfl, by decide +kernel, by decide +kernel⟩ (by decide +kernel)
  (fun _ _ _ _ _ _ us hl => match us, hl with | [_], _ => rfl) (fun _ _ _ e => by cases e)
theorem ok12 (q : Ev.SaysW cfg w h K) (KX : K.In h) (hG : h.Ns mainGlobals mg) : Ev.VOk MM K mg v12 := q.vok KX hG (List.mem_of_getElem? (i := 12) rfl) (List.mem_of_getElem? (i := 12) rfl) ⟨rfl, rfl, rfl, by decide +kernel, rfl, by decide +kernel, by decide +kernel⟩ (by decide +kernel)
  (fun _ _ _ _ _ _ us hl => match us, hl with | [_, _], _ => rfl) (fun _ _ _ e => by cases e)
theorem ok13 (q : Ev.SaysW cfg w h K) (KX : K.In h) (hG : h.Ns mainGlobals mg) : Ev.VOk MM K mg v13 := q.vok KX hG (List.mem_of_getElem? (i := 13) rfl) (List.mem_of_getElem? (i := 13) rfl) ⟨rfl, rfl, rfl, by decide +kernel, rfl, by decide +kernel, by decide +kernel⟩ (by decide +kernel)
  (fun _ _ _ _ _ _ us hl => match us, hl with | [_, _], _ => rfl) (fun n ks prm e => by
    change (if n = 0 ∧ ks = [("row" : PySem.Str), ("web" : PySem.Str)] then some [1, 0] else none) = some prm at e
    split at e
    · rename_i z
      obtain ⟨rfl, rfl⟩ := z
      cases e
      exact Ev.kbi_of (q.vfn (List.mem_of_getElem? (i := 13) rfl)) fun _ _ _ _ _ _ us ws h1 h2 => match us, ws, h1, h2 with | [], [_, _], _, _ => rfl
    · cases e)
theorem ok14 (q : Ev.SaysW cfg w h K) (KX : K.In h) (hG : h.Ns mainGlobals mg) : Ev.VOk MM K mg v14 := q.vok KX hG (List.mem_of_getElem? (i := 14) rfl) (List.mem_of_getElem? (i := 14) rfl) ⟨rfl, rfl, rfl, by decide +kernel, rfl, by decide +kernel, by decide +kernel⟩ (by decide +kernel)
  (fun _ _ _ _ _ _ us hl => match us, hl with | [_, _], _ => rfl) (fun _ _ _ e => by cases e)
theorem ok15 (q : Ev.SaysW cfg w h K) (KX : K.In h) (hG : h.Ns mainGlobals mg) : Ev.VOk MM K mg v15 := q.vok KX hG (List.mem_of_getElem? (i := 15) rfl) (List.mem_of_getElem? (i := 15) rfl) ⟨rfl, rfl, rfl, by decide +kernel, rfl, by decide +kernel, by decide +kernel⟩ (by decide +kernel)
  (fun _ _ _ _ _ _ us hl => match us, hl with | [_, _], _ => rfl) (fun _ _ _ e => by cases e)
theorem ok16 (q : Ev.SaysW cfg w h K) (KX : K.In h) (hG : h.Ns mainGlobals mg) : Ev.VOk MM K mg v16 := q.vok KX hG (List.mem_of_getElem? (i := 16) rfl) (List.mem_of_getElem? (i := 16) rfl) ⟨rfl, rfl, rfl, by decide +kernel, rfl, by decide +kernel, by decide +kernel⟩ (by decide +kernel)
  (fun _ _ _ _ _ _ us hl => match us, hl with | [_, _], _ => rfl) (fun _ _ _ e => by cases e)
theorem ok17 (q : Ev.SaysW cfg w h K) (KX : K.In h) (hG : h.Ns mainGlobals mg) : Ev.VOk MM K mg v17 := q.vok KX hG (List.mem_of_getElem? (i := 17) rfl) (List.mem_of_getElem? (i := 17) rfl) ⟨rfl, rfl, rfl, by decide +kernel, rfl, by decide +kernel, by decide +kernel⟩ (by decide +kernel)
  (fun _ _ _ _ _ _ us hl => match us, hl with | [_, _], _ => rfl) (fun _ _ _ e => by cases e)
theorem ok18 (q : Ev.SaysW cfg w h K) (KX : K.In h) (hG : h.Ns mainGlobals mg) : Ev.VOk MM K mg v18 := q.vok KX hG (List.mem_of_getElem? (i := 18) rfl) (List.mem_of_getElem? (i := 18) rfl) ⟨rfl, rfl, rfl, by decide +kernel, rfl, by decide +kernel, by decide +kernel⟩ (by decide +kernel)
  (fun _ _ _ _ _ _ us hl => match us, hl with | [_, _], _ => rfl) (fun _ _ _ e => by cases e)
theorem ok19 (q : Ev.SaysW cfg w h K) (KX : K.In h) (hG : h.Ns mainGlobals mg) : Ev.VOk MM K mg v19 := q.vok KX hG (List.mem_of_getElem? (i := 19) rfl) (List.mem_of_getElem? (i := 19) rfl) ⟨rfl, rfl, rfl, by decide +kernel, rfl, by decide +kernel, by decide +kernel⟩ (by decide +kernel)
  (fun _ _ _ _ _ _ us hl => match us, hl with | [_, _], _ => rfl) (fun _ _ _ e => by cases e)
theorem ok20 (q : Ev.SaysW cfg w h K) (KX : K.In h) (hG : h.Ns mainGlobals mg) : Ev.VOk MM K mg v20 := q.vok KX hG (List.mem_of_getElem? (i := 20) rfl) (List.mem_of_getElem? (i := 20) rfl) ⟨rfl, rfl, rfl, by decide +kernel, rfl, by decide +kernel, by decide +kernel⟩ (by decide +kernel)
  (fun _ _ _ _ _ _ us hl => match us, hl with | [_], _ => rfl) (fun _ _ _ e => by cases e)
theorem ok21 (q : Ev.SaysW cfg w h K) (KX : K.In h) (hG : h.Ns mainGlobals mg) : Ev.VOk MM K mg v21 := q.vok KX hG (List.mem_of_getElem? (i := 21) rfl) (List.mem_of_getElem? (i := 21) rfl) ⟨rfl, rfl, rfl, by decide +kernel, rfl, by decide +kernel, by decide +kernel⟩ (by decide +kernel)
  (fun _ _ _ _ _ _ us hl => match us, hl with | [_], _ => rfl) (fun _ _ _ e => by cases e)
theorem ok22 (q : Ev.SaysW cfg w h K) (KX : K.In h) (hG : h.Ns mainGlobals mg) : Ev.VOk MM K mg v22 := q.vok KX hG (List.mem_of_getElem? (i := 22) rfl) (List.mem_of_getElem? (i := 22) rfl) ⟨rfl, rfl, rfl, by decide +kernel, rfl, by decide +kernel, by decide +kernel⟩ (by decide +kernel)
  (fun _ _ _ _ _ _ us hl => match us, hl with | [_], _ => rfl) (fun _ _ _ e => by cases e)
theorem ok23 (q : Ev.SaysW cfg w h K) (KX : K.In h) (hG : h.Ns mainGlobals mg) : Ev.VOk MM K mg v23 := q.vok KX hG (List.mem_of_getElem? (i := 23) rfl) (List.mem_of_getElem? (i := 23) rfl) ⟨rfl, rfl, rfl, by decide +kernel, rfl, by decide +kernel, by decide +kernel⟩ (by decide +kernel)
  (fun _ _ _ _ _ _ us hl => match us, hl with | [_], _ => rfl) (fun _ _ _ e => by cases e)
theorem ok24 (q : Ev.SaysW cfg w h K) (KX : K.In h) (hG : h.Ns mainGlobals mg) : Ev.VOk MM K mg v24 := q.vok KX hG (List.mem_of_getElem? (i := 24) rfl) (List.mem_of_getElem? (i := 24) rfl) ⟨rfl, rfl, rfl, by decide +kernel, rfl, by decide +kernel, by decide +kernel⟩ (by decide +kernel)
  (fun _ _ _ _ _ _ us hl => match us, hl with | [_], _ => rfl) (fun _ _ _ e => by cases e)
theorem ok25 (q : Ev.SaysW cfg w h K) (KX : K.In h) (hG : h.Ns mainGlobals mg) : Ev.VOk MM K mg v25 := q.vok KX hG (List.mem_of_getElem? (i := 25) rfl) (List.mem_of_getElem? (i := 25) rfl) ⟨rfl, rfl, rfl, by decide +kernel, rfl, by decide +kernel, by decide +kernel⟩ (by decide +kernel)
  (fun _ _ _ _ _ _ us hl => match us, hl with | [_, _], _ => rfl) (fun _ _ _ e => by cases e)
theorem ok26 (q : Ev.SaysW cfg w h K) (KX : K.In h) (hG : h.Ns mainGlobals mg) : Ev.VOk MM K mg v26 := q.vok KX hG (List.mem_of_getElem? (i := 26) rfl) (List.mem_of_getElem? (i := 26) rfl) ⟨rfl, rfl, rfl, by decide +kernel, rfl, by decide +kernel, by decide +kernel⟩ (by decide +kernel)
  (fun _ _ _ _ _ _ us hl => match us, hl with | [_], _ => rfl) (fun _ _ _ e => by cases e)
theorem ok27 (q : Ev.SaysW cfg w h K) (KX : K.In h) (hG : h.Ns mainGlobals mg) : Ev.VOk MM K mg v27 := q.vok KX hG (List.mem_of_getElem? (i := 27) rfl) (List.mem_of_getElem? (i := 27) rfl) ⟨rfl, rfl, rfl, by decide +kernel, rfl, by decide +kernel, by decide +kernel⟩ (by decide +kernel)
  (fun _ _ _ _ _ _ us hl => match us, hl with | [_], _ => rfl) (fun _ _ _ e => by cases e)
theorem ok28 (q : Ev.SaysW cfg w h K) (KX : K.In h) (hG : h.Ns mainGlobals mg) : Ev.VOk MM K mg v28 := q.vok KX hG (List.mem_of_getElem? (i := 28) rfl) (List.mem_of_getElem? (i := 28) rfl) ⟨rfl, rfl, rfl, by decide +kernel, rfl, by decide +kernel, by decide +kernel⟩ (by decide +kernel)
  (fun _ _ _ _ _ _ us hl => match us, hl with | [_, _], _ => rfl) (fun _ _ _ e => by cases e)
theorem ok29 (q : Ev.SaysW cfg w h K) (KX : K.In h) (hG : h.Ns mainGlobals mg) : Ev.VOk MM K mg v29 := q.vok KX hG (List.mem_of_getElem? (i := 29) rfl) (List.mem_of_getElem? (i := 29) rfl) ⟨rfl, rfl, rfl, by decide +kernel, rfl, by decide +kernel, by decide +kernel⟩ (by decide +kernel)
  (fun _ _ _ _ _ _ us hl => match us, hl with | [_, _], _ => rfl) (fun _ _ _ e => by cases e)
theorem ok30 (q : Ev.SaysW cfg w h K) (KX : K.In h) (hG : h.Ns mainGlobals mg) : Ev.VOk MM K mg v30 := q.vok KX hG (List.mem_of_getElem? (i := 30) rfl) (List.mem_of_getElem? (i := 30) rfl) ⟨rfl, rfl, rfl, by decide +kernel, rfl, by decide +kernel, by decide +kernel⟩ (by decide +kernel)
  (fun _ _ _ _ _ _ us hl => match us, hl with | [_, _, _], _ => rfl) (fun _ _ _ e => by cases e)
theorem ok31 (q : Ev.SaysW cfg w h K) (KX : K.In h) (hG : h.Ns mainGlobals mg) : Ev.VOk MM K mg v31 := q.vok KX hG (List.mem_of_getElem? (i := 31) rfl) (List.mem_of_getElem? (i := 31) rfl) ⟨rfl, rfl, rfl, by decide +kernel, rfl, by decide +kernel, by decide +kernel⟩ (by decide +kernel)
  (fun _ _ _ _ _ _ us hl => match us, hl with | [_, _], _ => rfl) (fun _ _ _ e => by cases e)
theorem ok32 (q : Ev.SaysW cfg w h K) (KX : K.In h) (hG : h.Ns mainGlobals mg) : Ev.VOk MM K mg v32 := q.vok KX hG (List.mem_of_getElem? (i := 33) rfl) (List.mem_of_getElem? (i := 33) rfl) ⟨rfl, rfl, rfl, by decide +kernel, rfl, by decide +kernel, by decide +kernel⟩ (by decide +kernel)
  (fun _ _ _ _ _ _ us hl => match us, hl with | [_, _], _ => rfl) (fun _ _ _ e => by cases e)
theorem ok33 (q : Ev.SaysW cfg w h K) (KX : K.In h) (hG : h.Ns mainGlobals mg) : Ev.VOk MM K mg v33 := q.vok KX hG (List.mem_of_getElem? (i := 34) rfl) (List.mem_of_getElem? (i := 34) rfl) ⟨rfl, rfl, rfl, by decide +kernel, rfl, by decide +kernel, by decide +kernel⟩ (by decide +kernel)
  (fun _ _ _ _ _ _ us hl => match us, hl with | [_, _], _ => rfl) (fun _ _ _ e => by cases e)
theorem ok34 (q : Ev.SaysW cfg w h K) (KX : K.In h) (hG : h.Ns mainGlobals mg) : Ev.VOk MM K mg v34 := q.vok KX hG (List.mem_of_getElem? (i := 35) rfl) (List.mem_of_getElem? (i := 35) rfl) ⟨rfl, rfl, rfl, by decide +kernel, rfl, by decide +kernel, by decide +kernel⟩ (by decide +kernel)
  (fun _ _ _ _ _ _ us hl => match us, hl with | [_], _ => rfl) (fun _ _ _ e => by cases e)
theorem ok35 (q : Ev.SaysW cfg w h K) (KX : K.In h) (hG : h.Ns mainGlobals mg) : Ev.VOk MM K mg v35 := q.vok KX hG (List.mem_of_getElem? (i := 19) rfl) (List.mem_of_getElem? (i := 19) rfl) ⟨rfl, rfl, rfl, by decide +kernel, rfl, by decide +kernel, by decide +kernel⟩ (by decide +kernel)
  (fun _ _ _ _ _ _ us hl => match us, hl with | [_, _], _ => rfl) (fun _ _ _ e => by cases e)
theorem oks (q : Ev.SaysW cfg w h K) (KX : K.In h) (hG : h.Ns mainGlobals mg) : Ev.AllP (Ev.VOk MM K mg) pg := ⟨ok0 q KX hG, ok1 q KX hG, ok2 q KX hG, ok3 q KX hG, ok4 q KX hG, ok5 q KX hG, ok6 q KX hG, ok7 q KX hG, ok8 q KX hG, ok9 q KX hG, ok10 q KX hG, ok11 q KX hG, ok12 q KX hG, ok13 q KX hG, ok14 q KX hG, ok15 q KX hG, ok16 q KX hG, ok17 q KX hG, ok18 q KX hG, ok19 q KX hG, ok20 q KX hG, ok21 q KX hG, ok22 q KX hG, ok23 q KX hG, ok24 q KX hG, ok25 q KX hG, ok26 q KX hG, ok27 q KX hG, ok28 q KX hG, ok29 q KX hG, ok30 q KX hG, ok31 q KX hG, ok32 q KX hG, ok33 q KX hG, ok34 q KX hG, ok35 q KX hG, trivial⟩
theorem frees (q : Ev.SaysW cfg w h K) (KX : K.In h) (hG : h.Ns mainGlobals mg) {x : Str} (hx : bi x = true) : mg x = none := by
  have e : ((fa.drop 40).take 18) = (([("ValueError" : Str), ("abs" : Str), ("all" : Str), ("any" : Str), ("bool" : Str), ("dict" : Str), ("enumerate" : Str), ("int" : Str), ("isinstance" : Str), ("len" : Str), ("list" : Str), ("range" : Str), ("repr" : Str), ("str" : Str), ("sum" : Str), ("super" : Str), ("tuple" : Str), ("zip" : Str)] : List Str).map He.Fa.free) := by rfl
  have hx2 : x ∈ ([("ValueError" : Str), ("abs" : Str), ("all" : Str), ("any" : Str), ("bool" : Str), ("dict" : Str), ("enumerate" : Str), ("int" : Str), ("isinstance" : Str), ("len" : Str), ("list" : Str), ("range" : Str), ("repr" : Str), ("str" : Str), ("sum" : Str), ("super" : Str), ("tuple" : Str), ("zip" : Str)] : List Str) := List.contains_iff_mem.mp hx
  refine He.free_ok KX hG (q.fac ?_)
  have m : He.Fa.free x ∈ (fa.drop 40).take 18 := by
    rw [e]
    exact List.mem_map.mpr ⟨x, hx2, rfl⟩
  exact List.mem_of_mem_drop (List.mem_of_mem_take m)
end
end K08
namespace K08
open L2 PySem PySem.Spec PyProof.Rows
section
variable {w : World} {h base : Heap} {K : PySem.W.Frag} {mg : Str → Option Value}
structure ExF (K : PySem.W.Frag) (C : Addr) : Prop where
  kp : PySem.W.keepIn K (.ref C) = true
  sb : PySem.W.subIn K (.ref C) (.type "BaseException") = some true
  ty : PySem.W.typeIn K (.ref C) = some (.type "type")
  xf : XfC K C
theorem excB_ok {C : Addr} (e : excB K C = true) : ExF K C := by
  obtain ⟨h1, e⟩ := Bool.and_eq_true_iff.mp e
  obtain ⟨h2, e⟩ := Bool.and_eq_true_iff.mp e
  obtain ⟨h3, h4⟩ := Bool.and_eq_true_iff.mp e
  exact ⟨h1, of_decide_eq_true h2, of_decide_eq_true h3, xfB_ok h4⟩
structure MoreF (K : PySem.W.Frag) : Prop where
  nol : ∀ b o, K.lookup b = some o → o.cls ≠ .type "list"
  sy : ∃ o, K.lookup sysModules = some o
  ap : (He.cT K ("_law_judged_right", none)).2 ≠ (He.cT K ("_law_put_right", none)).2
  fo : He.valsB K (He.ga K "FORMS") (forms.map fun p => (p.1, He.Dv.int p.2)) = true
  x0 : Ev.xcB K bad0 file = true
  x1 : Ev.xcB K bad1 file = true
  e0 : ExF K (He.ga K "BadWeb")
  e1 : ExF K (He.ga K "BadRow")
  m00 : PySem.W.exmOne K (.ref (He.ga K "BadWeb")) (.ref (He.ga K "BadWeb")) = some true
  m01 : PySem.W.exmOne K (.ref (He.ga K "BadWeb")) (.ref (He.ga K "BadRow")) = some false
  m10 : PySem.W.exmOne K (.ref (He.ga K "BadRow")) (.ref (He.ga K "BadWeb")) = some false
  m11 : PySem.W.exmOne K (.ref (He.ga K "BadRow")) (.ref (He.ga K "BadRow")) = some true
theorem more (q : Ev.SaysW cfg w h K) : MoreF K := by
  have e : ex K = true := q.more
  unfold ex at e
  obtain ⟨h1, e⟩ := Bool.and_eq_true_iff.mp e
  obtain ⟨h2, e⟩ := Bool.and_eq_true_iff.mp e
  obtain ⟨h3, e⟩ := Bool.and_eq_true_iff.mp e
  obtain ⟨h4, e⟩ := Bool.and_eq_true_iff.mp e
  obtain ⟨h5, e⟩ := Bool.and_eq_true_iff.mp e
  obtain ⟨h6, e⟩ := Bool.and_eq_true_iff.mp e
  obtain ⟨h7, e⟩ := Bool.and_eq_true_iff.mp e
  obtain ⟨h8, e⟩ := Bool.and_eq_true_iff.mp e
  obtain ⟨h9, e⟩ := Bool.and_eq_true_iff.mp e
  obtain ⟨h10, e⟩ := Bool.and_eq_true_iff.mp e
  obtain ⟨h11, h12⟩ := Bool.and_eq_true_iff.mp e
  refine ⟨fun b o hb z => ?_, Option.isSome_iff_exists.mp h2, by simpa using h3, h4, h5, h6, excB_ok h7, excB_ok h8, of_decide_eq_true h9, of_decide_eq_true h10, of_decide_eq_true h11, of_decide_eq_true h12⟩
  have g := List.all_eq_true.mp h1 (b, o) (He.lookup_mem hb)
  dsimp only at g
  rw [z] at g
  simp at g
theorem fileB (c : Addr) : True := trivial
theorem xb0 : Ev.XcB bad0.fld bad0.params bad0.body bad0.scope :=
  ⟨⟨"self", "index", _, _, _, _, _, _, _, _, _, _, _, rfl, rfl, rfl, by decide, rfl, rfl, by decide, by decide, by decide +kernel, fun _ _ _ _ _ _ _ _ _ _ _ => rfl⟩, rfl, rfl, by decide +kernel, rfl, rfl, rfl⟩
theorem xb1 : Ev.XcB bad1.fld bad1.params bad1.body bad1.scope :=
  ⟨⟨"self", "row", _, _, _, _, _, _, _, _, _, _, _, rfl, rfl, rfl, by decide, rfl, rfl, by decide, by decide, by decide +kernel, fun _ _ _ _ _ _ _ _ _ _ _ => rfl⟩, rfl, rfl, by decide +kernel, rfl, rfl, rfl⟩
theorem xs0 (q : Ev.SaysW cfg w h K) : Ev.XcS prog K (He.ga K "BadWeb") "index" := Ev.xcB_ok (P := prog) (m := bad0) (more q).x0 (q.mth List.mem_cons_self) rfl xb0 (by decide +kernel)
theorem xs1 (q : Ev.SaysW cfg w h K) : Ev.XcS prog K (He.ga K "BadRow") "row" := Ev.xcB_ok (P := prog) (m := bad1) (more q).x1 (q.mth (List.mem_cons_of_mem _ List.mem_cons_self)) rfl xb1 (by decide +kernel)
theorem exck (q : Ev.SaysW cfg w h K) (KX : K.In h) (hG : h.Ns mainGlobals mg) (KB : K.In base) (x : Str) (c : Nat) (hx : exc x = some c) (X : Cx) (e1 : X.prog = prog) (e2 : X.w = w) (e3 : X.K = K) (e4 : X.mg = mg) (e5 : X.base = base) (k : Nat) : Ev.ExcK X (Gk w K mg base) (3 * k + 2) x c := by
  have hsup : mg "super" = none := frees q KX hG (x := "super") (by decide +kernel)
  subst e3 e4 e5
  unfold exc at hx
  split at hx
  · rename_i hn
    subst hn
    obtain rfl : 0 = c := Option.some.inj hx
    exact Ev.excK_own (k := 3 * k + 1) (U := X.K) (f := "index") (by rw [e1]; exact xs0 q) KB hsup rfl (He.glo_ok KX hG (q.fac (f := .glo "BadWeb") (List.mem_of_getElem? (i := 38) rfl))) (by decide) (more q).e0.sb (more q).e0.ty (more q).e0.kp
  · split at hx
    · rename_i hn
      subst hn
      obtain rfl : 1 = c := Option.some.inj hx
      exact Ev.excK_own (k := 3 * k + 1) (U := X.K) (f := "row") (by rw [e1]; exact xs1 q) KB hsup rfl (He.glo_ok KX hG (q.fac (f := .glo "BadRow") (List.mem_of_getElem? (i := 39) rfl))) (by decide) (more q).e1.sb (more q).e1.ty (more q).e1.kp
    · cases hx
theorem glT (q : Ev.SaysW cfg w h K) (KX : K.In h) (hG : h.Ns mainGlobals mg) (G : Ev.Gc) (x : Str) (n : String) (hb : bi x = true) (hn : x ≠ "__name__") (hv : bootBuiltins x = some (.type n)) : Ev.GlV G mg x (.ty n) :=
  .inr ⟨frees q KX hG hb, hn, .type n, .ty n, hv, rfl, fun _ _ _ => rfl⟩
theorem gls (q : Ev.SaysW cfg w h K) (KX : K.In h) (hG : h.Ns mainGlobals mg) (G : Ev.Gc) (x : Str) (d : Ev.D) (hx : gl x = some d) : Ev.GlV G mg x d := by
  unfold gl at hx
  repeat' split at hx
  all_goals first | (cases hx; done) | skip
  all_goals rename_i hn
  all_goals subst hn
  all_goals cases hx
  all_goals first
    | exact glT q KX hG G _ _ (by decide +kernel) (by decide) (by boot_by_name)
    | skip
  · obtain ⟨t, e⟩ := He.str_ok KX hG (q.fac (f := .str "FIRST" "abcdefghijklmnopqrstuvwxyz") (List.mem_of_getElem? (i := 58) rfl))
    exact .inl ⟨_, .str "abcdefghijklmnopqrstuvwxyz", e, ⟨_, rfl⟩, fun H own res => rfl⟩
  · obtain ⟨t, e⟩ := He.str_ok KX hG (q.fac (f := .str "LATER" "abcdefghijklmnopqrstuvwxyz0123456789") (List.mem_of_getElem? (i := 59) rfl))
    exact .inl ⟨_, .str "abcdefghijklmnopqrstuvwxyz0123456789", e, ⟨_, rfl⟩, fun H own res => rfl⟩
theorem gks (q : Ev.SaysW cfg w h K) (KX : K.In h) (hG : h.Ns mainGlobals mg) (G : Ev.Gc) (x : Str) (kvs : List (Str × Ev.D)) (hx : gdc x = some kvs) (X : Cx) (e1 : X.w = w) (e2 : X.K = K) (e3 : X.mg = mg) : Ev.KTab X G x kvs := by
  subst e1 e2 e3
  unfold gdc at hx
  split at hx
  · rename_i hn
    subst hn
    obtain rfl := Option.some.inj hx
    have e : (cfg.ts.map fun t => He.dicW X.K (t.1 X.K)) = cfg.ts.map fun t => some (He.keysIn X.w.params t.2) := congrArg (fun z : He.AlT => z.2) q.t
    have e2 : He.dicW X.K (He.ga X.K "FORMS") = some (He.keysIn X.w.params (forms.map (·.1))) := List.cons.inj e |>.1
    exact Ev.ktab_of (kvs := forms) (He.glo_ok KX hG (q.fac (f := .glo "FORMS") (List.mem_of_getElem? (i := 37) rfl))) e2 (more q).fo
  · cases hx
theorem lamN {V : Ev.Vr} {v : Nat} (hv : pg[v]? = some V) (hl : V.lam = true) : (V.nm, none) ∈ tf := by
  have a : (pg.all fun V => !V.lam || (V.nm == "_law_judged_right" || V.nm == "_law_put_right")) = true := by decide +kernel
  have b := List.all_eq_true.mp a V (List.mem_of_getElem? hv)
  rw [hl] at b
  have b2 : (V.nm == "_law_judged_right" || V.nm == "_law_put_right") = true := b
  rcases Bool.or_eq_true_iff.mp b2 with e | e
  · rw [eq_of_beq e]
    exact List.mem_cons_self
  · rw [eq_of_beq e]
    exact List.mem_cons_of_mem _ List.mem_cons_self
theorem nmv_eq {V : Ev.Vr} {v : Nat} (hv : pg[v]? = some V) : nmv v = V.nm := by
  unfold nmv
  rw [hv]
theorem tf_in {x : Str} (hx : (x, none) ∈ tf) : x = "_law_judged_right" ∨ x = "_law_put_right" := by
  rcases List.mem_cons.mp hx with e | e
  · exact .inl (congrArg Prod.fst e)
  · rcases List.mem_cons.mp e with e | e
    · exact .inr (congrArg Prod.fst e)
    · cases e
theorem tf_uq (q : Ev.SaysW cfg w h K) {x y : Str} (hx : (x, none) ∈ tf) (hy : (y, none) ∈ tf) (e : (He.cT K (x, none)).2 = (He.cT K (y, none)).2) : x = y := by
  rcases tf_in hx with rfl | rfl <;> rcases tf_in hy with rfl | rfl
  · rfl
  · exact absurd e (more q).ap
  · exact absurd e.symm (more q).ap
  · rfl
theorem tf_none {p : He.Defn} (hp : p ∈ tf) : ∃ x : Str, p = (x, none) := by
  rcases List.mem_cons.mp hp with e | e
  · exact ⟨_, e⟩
  · rcases List.mem_cons.mp e with e | e
    · exact ⟨_, e⟩
    · cases e
theorem mdk (q : Ev.SaysW cfg w h K) (KX : K.In h) (hG : h.Ns mainGlobals mg) (KB : K.In base) (TB : ∀ p ∈ tf, LamX.TabB base mg (He.cT K p).1 (He.cT K p).2) : Ev.MdK MM (Gk w K mg base) prog w K mg base (fun v => Ev.fdAt K (He.ga K (nmv v))) := by
  have A : ∀ {v : Nat} {V : Ev.Vr}, pg[v]? = some V → Ev.VOk MM K mg V := fun hv => (oks q KX hG).get hv
  refine { pw := ⟨rfl, rfl⟩, xl := fun c => rfl, gl := gls q KX hG _, bi := fun x hx => frees q KX hG hx, gk := fun x kvs hx X e1 e2 e3 => gks q KX hG _ x kvs hx X e1 e2 e3, sy := (more q).sy, fn := fun v V hv => ?_, scp := fun v V hv => (A hv).scp, mgv := fun v V hv => ?_, bnd := fun v V hv => ?_, kbi := fun v V hv n ks prm e => ?_, cal := fun v V hv => (A hv).cal, exc := fun x c hx X e1 e2 e3 e4 e5 k => exck q KX hG KB x c hx X e1 e2 e3 e4 e5 k, lam := fun v V hv hl cdv hca => ?_ }
  · show FunD K V.nm V.nm V.args V.body V.sc [] [] (He.ga K (nmv v)) (Ev.fdAt K (He.ga K (nmv v)))
    rw [nmv_eq hv]
    exact (A hv).fn
  · show mg V.nm = some (.ref (He.ga K (nmv v)))
    rw [nmv_eq hv]
    exact (A hv).mgv
  · show Binds K (Ev.fdAt K (He.ga K (nmv v))) V.ps []
    rw [nmv_eq hv]
    exact (A hv).bnd
  · show Ev.KBi K (Ev.fdAt K (He.ga K (nmv v))) V.ps n ks prm
    rw [nmv_eq hv]
    exact (A hv).kbi n ks prm e
  · have hca2 : Ev.CodeAt K (He.ga K V.nm) (Ev.fdAt K (He.ga K V.nm)) V.nm cdv := by
      rw [← nmv_eq hv]
      rw [← nmv_eq hv] at hca
      exact hca
    obtain ⟨⟨oc, od, osl, lk⟩, e1, e2⟩ := hca2
    obtain ⟨c, rfl⟩ := He.codeIn_ref e2
    have hm := lamN hv hl
    have ec : (He.cT K (V.nm, none)).1 = c := He.codeOf_eq (p := (V.nm, none)) lk e1
    refine ⟨c, (He.cT K (V.nm, none)).2, rfl, by rw [← ec]; exact TB _ hm, List.mem_map.mpr ⟨_, hm, rfl⟩, fun p hp e => ?_⟩
    obtain ⟨t, ht, rfl⟩ := List.mem_map.mp hp
    obtain ⟨x, rfl⟩ := tf_none ht
    have ex := tf_uq q ht hm e
    subst ex
    rfl
theorem hdk (q : Ev.SaysW cfg w h K) (KX : K.In h) (hG : h.Ns mainGlobals mg) (x : Ev.Hd) (hx : x ∈ hds) : Ev.HdK K mg (Gk w K mg base) (defScope (topS 42)) hds x := by
  have m := more q
  have nm : ∀ (C : Str) (fl : Str), Ev.XcS prog K (He.ga K C) fl → PySem.W.findIn K (.ref (He.ga K C)) fl = some none := fun C fl z => z.nof
  rcases List.mem_cons.mp hx with rfl | hx
  · refine ⟨by decide +kernel, by decide, He.glo_ok KX hG (q.fac (f := .glo "BadWeb") (List.mem_of_getElem? (i := 38) rfl)), m.e0.xf, nm "BadWeb" "index" (xs0 q), rfl, fun y hy => ?_⟩
    rcases List.mem_cons.mp hy with rfl | hy
    · exact m.m00
    · rcases List.mem_cons.mp hy with rfl | hy
      · exact m.m10
      · cases hy
  · rcases List.mem_cons.mp hx with rfl | hx
    · refine ⟨by decide +kernel, by decide, He.glo_ok KX hG (q.fac (f := .glo "BadRow") (List.mem_of_getElem? (i := 39) rfl)), m.e1.xf, nm "BadRow" "row" (xs1 q), rfl, fun y hy => ?_⟩
      rcases List.mem_cons.mp hy with rfl | hy
      · exact m.m01
      · rcases List.mem_cons.mp hy with rfl | hy
        · exact m.m11
        · cases hy
    · cases hx
theorem metk (q : Ev.SaysW cfg w h K) (KX : K.In h) (hG : h.Ns mainGlobals mg) : Ev.MetK M (Gk w K mg base) K mg "_law_met" "_law_ask" "told" "e" 1 hds ["_law_ask", "e"] (defScope (topS 42)) (defArgs (topS 42)) (defBody (topS 42)) (He.ga K "_law_met") (Ev.fdAt K (He.ga K "_law_met")) where
  fn := q.vfn (List.mem_of_getElem? (i := 32) rfl)
  mgm := He.glo_ok KX hG (q.fac (f := .glo "_law_met") (List.mem_of_getElem? (i := 32) rfl))
  bnd := (q.vfn (List.mem_of_getElem? (i := 32) rfl)).bindsN fun _ _ _ _ _ _ us hl => match us, hl with | [_], _ => rfl
  scp := ⟨rfl, rfl, rfl, by decide +kernel, rfl, by decide +kernel, by decide +kernel⟩
  n0 := rfl
  va := .inl (by decide +kernel)
  nN := rfl
  nl := by decide +kernel
  hk := hdk q KX hG
  ok := by decide +kernel
  mb := ⟨_, _, _, _, _, _, _, _, [_], rfl, .cons (.mk ⟨"BadWeb", 0, "web", "index", 0⟩ _ _ _ _ _ _ _ _) (.cons (.mk ⟨"BadRow", 1, "row", "row", 0⟩ _ _ _ _ _ _ _ _) .nil)⟩
/-- THE WALK: the law keeps its sem, at every level -/
theorem lawF (q : Ev.SaysW cfg w h K) (KX : K.In h) (hG : h.Ns mainGlobals mg) (KB : K.In base) (TB : ∀ p ∈ tf, LamX.TabB base mg (He.cT K p).1 (He.cT K p).2) (k : Nat) : Ev.FnR true prog w K mg base (L2.CX prog w) (3 * k) (He.ga K "law") (Ev.fdAt K (He.ga K "law")) ["_law_script"] (Ev.spF (Gk w K mg base) 1 (Ev.sem MM k 34)) :=
  Ev.lev (mdk q KX hG KB TB) (Ev.metHook_ok (metk q KX hG) (mdk q KX hG KB TB)) k 34 v34 rfl
end
end K08
/-! printed by gen_sem.py: each def's reading, written out -/
namespace Ev
def rgN (n : Nat) : List D → Sto → R Src := fun as S => if as.length = n then srRg as S else .bad
end Ev
namespace K08
open PySem PySem.Spec PyProof.Rows L2 Ev
/-- is_integer -/
def g0 (cal : Nat → Fn) : Sm := (ret (andV (ofL dIsi (arC (vrb 0) (arC (cst (.ty "int")) arN))) (un1 notV (ofL dIsi (arC (vrb 0) (arC (cst (.ty "bool")) arN))))))
theorem b0 (cal : Nat → Fn) (k : Nat) : semB MM cal (k + 2) v0 = some (g0 cal) := by kernel_rfl
theorem s0 (k : Nat) : sem MM (k + 1) 0 = runB 1 false (g0 (sem MM k)) := by
  show (match semB MM (sem MM k) (3 * k + 2) v0 with | some f => runB 1 false f | none => fun _ _ => .bad) = _
  rw [b0]
/-- is_number -/
def g1 (cal : Nat → Fn) : Sm := (ret (andV (clP 1 (cal 0) (arC (vrb 0) arN)) (bi2 (dCo .GtE) (vrb 0) (cst (.int (0))))))
theorem b1 (cal : Nat → Fn) (k : Nat) : semB MM cal (k + 2) v1 = some (g1 cal) := by kernel_rfl
theorem s1 (k : Nat) : sem MM (k + 1) 1 = runB 1 false (g1 (sem MM k)) := by
  show (match semB MM (sem MM k) (3 * k + 2) v1 with | some f => runB 1 false f | none => fun _ _ => .bad) = _
  rw [b1]
/-- is_list -/
def g2 (cal : Nat → Fn) : Sm := (ret (ofL dIsi (arC (vrb 0) (arC (ofL mkT (arC (cst (.ty "list")) (arC (cst (.ty "tuple")) arN))) arN))))
theorem b2 (cal : Nat → Fn) (k : Nat) : semB MM cal (k + 2) v2 = some (g2 cal) := by kernel_rfl
theorem s2 (k : Nat) : sem MM (k + 1) 2 = runB 1 false (g2 (sem MM k)) := by
  show (match semB MM (sem MM k) (3 * k + 2) v2 with | some f => runB 1 false f | none => fun _ _ => .bad) = _
  rw [b2]
/-- is_name -/
def g3 (cal : Nat → Fn) : Sm := (sq (ifS (orB (notB (unB asB (ofL dIsi (arC (vrb 0) (arC (cst (.ty "str")) arN))))) (notB (unB asB (chn .Lt .Lt (cst (.int (0))) (ofL dLen (arC (vrb 0) arN)) (cst (.int (9))))))) (ret (cst (.bl false))) skp) (ret (andV (bi2 (dCo .In) (bi2 dIx (vrb 0) (cst (.int (0)))) (cst (.str "abcdefghijklmnopqrstuvwxyz"))) (ofL dAll (arC (lcN mkL [1] (src1 srSq (vrb 0)) (bnN 1) yes (bi2 (dCo .In) (vrb 1) (cst (.str "abcdefghijklmnopqrstuvwxyz0123456789")))) arN)))))
theorem b3 (cal : Nat → Fn) (k : Nat) : semB MM cal (k + 2) v3 = some (g3 cal) := by kernel_rfl
theorem s3 (k : Nat) : sem MM (k + 1) 3 = runB 2 false (g3 (sem MM k)) := by
  show (match semB MM (sem MM k) (3 * k + 2) v3 with | some f => runB 2 false f | none => fun _ _ => .bad) = _
  rw [b3]
/-- as_row -/
def g4 (cal : Nat → Fn) : Sm := (sq (ifS (orB (notB (unB asB (clP 1 (cal 2) (arC (vrb 0) arN)))) (orB (unB asB (bi2 (dCo .Eq) (ofL dLen (arC (vrb 0) arN)) (cst (.int (0))))) (notB (unB asB (ofL dIsi (arC (bi2 dIx (vrb 0) (cst (.int (0)))) (arC (cst (.ty "str")) arN))))))) (ret (cst .non)) skp) (sq (ifS (unB asB (bi2 (dCo .NotEq) (un1 (dKG [("made", (.int (3))), ("asked", (.int (3))), ("either", (.int (4))), ("given", (.int (2)))]) (bi2 dIx (vrb 0) (cst (.int (0))))) (ofL dLen (arC (vrb 0) arN)))) (ret (cst .non)) skp) (sq (ifS (unB asB (bi2 (dCo .In) (bi2 dIx (vrb 0) (cst (.int (0)))) (ofL mkT (arC (cst (.str "either")) (arC (cst (.str "given")) arN))))) (ret (ifE (unB asB (ofL dAll (arC (lcN mkL [1] (src1 srSq (slE (vrb 0) (opS (cst (.int (1)))) opN)) (bnN 1) yes (clP 1 (cal 1) (arC (vrb 1) arN))) arN))) (ofL dTuple (arC (vrb 0) arN)) (cst .non))) skp) (sq (ifS (orB (notB (unB asB (clP 1 (cal 3) (arC (bi2 dIx (vrb 0) (cst (.int (1)))) arN)))) (orB (notB (unB asB (clP 1 (cal 2) (arC (bi2 dIx (vrb 0) (cst (.int (2)))) arN)))) (notB (unB asB (ofL dAll (arC (lcN mkL [1] (src1 srSq (bi2 dIx (vrb 0) (cst (.int (2))))) (bnN 1) yes (clP 1 (cal 1) (arC (vrb 1) arN))) arN)))))) (ret (cst .non)) skp) (ret (ofL mkT (arC (bi2 dIx (vrb 0) (cst (.int (0)))) (arC (bi2 dIx (vrb 0) (cst (.int (1)))) (arC (ofL dTuple (arC (bi2 dIx (vrb 0) (cst (.int (2)))) arN)) arN)))))))))
theorem b4 (cal : Nat → Fn) (k : Nat) : semB MM cal (k + 2) v4 = some (g4 cal) := by kernel_rfl
theorem s4 (k : Nat) : sem MM (k + 1) 4 = runB 2 false (g4 (sem MM k)) := by
  show (match semB MM (sem MM k) (3 * k + 2) v4 with | some f => runB 2 false f | none => fun _ _ => .bad) = _
  rw [b4]
/-- named_rows -/
def g5 (cal : Nat → Fn) : Sm := (sq (ifS (unB asB (bi2 (dCo .Eq) (bi2 dIx (vrb 0) (cst (.int (0)))) (cst (.str "given")))) (ret (ofL mkL arN)) skp) (ret (ifE (unB asB (bi2 (dCo .Eq) (bi2 dIx (vrb 0) (cst (.int (0)))) (cst (.str "either")))) (ofL (dList mkL) (arC (slE (vrb 0) (opS (cst (.int (1)))) opN) arN)) (ofL (dList mkL) (arC (bi2 dIx (vrb 0) (cst (.int (2)))) arN)))))
theorem b5 (cal : Nat → Fn) (k : Nat) : semB MM cal (k + 2) v5 = some (g5 cal) := by kernel_rfl
theorem s5 (k : Nat) : sem MM (k + 1) 5 = runB 1 false (g5 (sem MM k)) := by
  show (match semB MM (sem MM k) (3 * k + 2) v5 with | some f => runB 1 false f | none => fun _ _ => .bad) = _
  rw [b5]
/-- is_kind -/
def g6 (cal : Nat → Fn) : Sm := (sq (ifS (unB asB (bi2 (dCo .Eq) (bi2 dIx (vrb 1) (cst (.int (0)))) (cst (.str "either")))) (ret (andV (bi2 (dCo .Eq) (bi2 dIx (bi2 dIx (vrb 0) (bi2 dIx (vrb 1) (cst (.int (1))))) (cst (.int (0)))) (cst (.str "asked"))) (bi2 (dCo .NotIn) (cst (.str "asked")) (lcN mkL [2] (src1 srSq (slE (vrb 1) (opS (cst (.int (2)))) opN)) (bnN 2) yes (bi2 dIx (bi2 dIx (vrb 0) (vrb 2)) (cst (.int (0)))))))) skp) (ret (bi2 (dCo .NotIn) (cst (.str "asked")) (lcN mkL [2] (src1 srSq (clP 1 (cal 5) (arC (vrb 1) arN))) (bnN 2) yes (bi2 dIx (bi2 dIx (vrb 0) (vrb 2)) (cst (.int (0))))))))
theorem b6 (cal : Nat → Fn) (k : Nat) : semB MM cal (k + 2) v6 = some (g6 cal) := by kernel_rfl
theorem s6 (k : Nat) : sem MM (k + 1) 6 = runB 3 false (g6 (sem MM k)) := by
  show (match semB MM (sem MM k) (3 * k + 2) v6 with | some f => runB 3 false f | none => fun _ _ => .bad) = _
  rw [b6]
/-- row_fault -/
def g7 (cal : Nat → Fn) : Sm := (sq (asg (clP 1 (cal 4) (arC (vrb 1) arN)) (bnN 2)) (sq (ifS (unB asB (bi2 (dCo .Is) (vrb 2) (cst .non))) (ret (cst (.str "form"))) skp) (sq (ifS (notB (unB asB (ofL dAll (arC (lcN mkL [3] (src1 srSq (clP 1 (cal 5) (arC (vrb 2) arN))) (bnN 3) yes (bi2 (dCo .Lt) (vrb 3) (ofL dLen (arC (vrb 0) arN)))) arN)))) (ret (cst (.str "ahead"))) skp) (sq (ifS (notB (unB asB (clP 2 (cal 6) (arC (vrb 0) (arC (vrb 2) arN))))) (ret (cst (.str "kind"))) skp) (ret (ifE (andB (unB asB (bi2 (dCo .Eq) (bi2 dIx (vrb 2) (cst (.int (0)))) (cst (.str "either")))) (unB asB (bi2 (dCo .Eq) (bi2 dIx (vrb 2) (cst (.int (2)))) (bi2 dIx (vrb 2) (cst (.int (3))))))) (cst (.str "alike")) (cst .non)))))))
theorem b7 (cal : Nat → Fn) (k : Nat) : semB MM cal (k + 2) v7 = some (g7 cal) := by kernel_rfl
theorem s7 (k : Nat) : sem MM (k + 1) 7 = runB 4 false (g7 (sem MM k)) := by
  show (match semB MM (sem MM k) (3 * k + 2) v7 with | some f => runB 4 false f | none => fun _ _ => .bad) = _
  rw [b7]
/-- rows_and_fault -/
def g8 (cal : Nat → Fn) : Sm := (sq (ifS (notB (unB asB (clP 1 (cal 2) (arC (vrb 0) arN)))) (ret (ofL mkT (arC (ofL mkL arN) (arC (ofL mkT (arC (cst (.int (0))) (arC (cst (.str "form")) arN))) arN)))) skp) (sq (par2 1 2 (arC (ofL mkC arN) (arC newN arN))) (sq (forS (srcL srEn (arC (vrb 0) arN)) (bnT 2 (bnsC (bnN 3) (bnsC (bnN 4) bnsN))) (sq (asg (clP 2 (cal 7) (arC (vrb 1) (arC (vrb 4) arN))) (bnN 5)) (sq (asg (clP 1 (cal 4) (arC (vrb 4) arN)) (bnN 6)) (sq (ifS (andB (unB asB (bi2 (dCo .Is) (vrb 5) (cst .non))) (unB asB (bi2 (dInN false) (vrb 6) (vrb 2)))) (asg (cst (.str "twice")) (bnN 5)) skp) (sq (ifS (unB asB (bi2 (dCo .IsNot) (vrb 5) (cst .non))) (ret (ofL mkT (arC (vrb 1) (arC (ofL mkT (arC (vrb 3) (arC (vrb 5) arN))) arN)))) skp) (sq (dro (mthL dApp (vrb 1) (arC (vrb 6) arN))) (asT (vrb 3) (tgSN (vrb 2) (vrb 6))))))))) (ret (ofL mkT (arC (vrb 1) (arC (cst .non) arN)))))))
theorem b8 (cal : Nat → Fn) (k : Nat) : semB MM cal (k + 2) v8 = some (g8 cal) := by kernel_rfl
theorem s8 (k : Nat) : sem MM (k + 1) 8 = runB 7 false (g8 (sem MM k)) := by
  show (match semB MM (sem MM k) (3 * k + 2) v8 with | some f => runB 7 false f | none => fun _ _ => .bad) = _
  rw [b8]
/-- web_fault -/
def g9 (cal : Nat → Fn) : Sm := (ret (bi2 dIx (clP 1 (cal 8) (arC (vrb 0) arN)) (cst (.int (1)))))
theorem b9 (cal : Nat → Fn) (k : Nat) : semB MM cal (k + 2) v9 = some (g9 cal) := by kernel_rfl
theorem s9 (k : Nat) : sem MM (k + 1) 9 = runB 1 false (g9 (sem MM k)) := by
  show (match semB MM (sem MM k) (3 * k + 2) v9 with | some f => runB 1 false f | none => fun _ _ => .bad) = _
  rw [b9]
/-- is_web -/
def g10 (cal : Nat → Fn) : Sm := (ret (bi2 (dCo .Is) (clP 1 (cal 9) (arC (vrb 0) arN)) (cst .non)))
theorem b10 (cal : Nat → Fn) (k : Nat) : semB MM cal (k + 2) v10 = some (g10 cal) := by kernel_rfl
theorem s10 (k : Nat) : sem MM (k + 1) 10 = runB 1 false (g10 (sem MM k)) := by
  show (match semB MM (sem MM k) (3 * k + 2) v10 with | some f => runB 1 false f | none => fun _ _ => .bad) = _
  rw [b10]
/-- checked_web -/
def g11 (cal : Nat → Fn) : Sm := (sq (asT (clP 1 (cal 8) (arC (vrb 0) arN)) (tgT 2 (tgsC (tgN 1) (tgsC (tgN 2) tgsN)))) (sq (ifS (unB asB (bi2 (dCo .IsNot) (vrb 2) (cst .non))) (rse 0 1 (arC (bi2 dIx (vrb 2) (cst (.int (0)))) arN)) skp) (ret (vrb 1))))
theorem b11 (cal : Nat → Fn) (k : Nat) : semB MM cal (k + 2) v11 = some (g11 cal) := by kernel_rfl
theorem s11 (k : Nat) : sem MM (k + 1) 11 = runB 3 false (g11 (sem MM k)) := by
  show (match semB MM (sem MM k) (3 * k + 2) v11 with | some f => runB 3 false f | none => fun _ _ => .bad) = _
  rw [b11]
/-- put_in -/
def g12 (cal : Nat → Fn) : Sm := (sq (ifS (unB asB (bi2 (dCo .NotIn) (vrb 1) (vrb 0))) (dro (mthL dApp (vrb 0) (arC (vrb 1) arN))) skp) (ret (mthL dIdx (vrb 0) (arC (vrb 1) arN))))
theorem b12 (cal : Nat → Fn) (k : Nat) : semB MM cal (k + 2) v12 = some (g12 cal) := by kernel_rfl
theorem s12 (k : Nat) : sem MM (k + 1) 12 = runB 2 false (g12 (sem MM k)) := by
  show (match semB MM (sem MM k) (3 * k + 2) v12 with | some f => runB 2 false f | none => fun _ _ => .bad) = _
  rw [b12]
/-- put_row -/
def g13 (cal : Nat → Fn) : Sm := (sq (asg (clP 1 (cal 11) (arC (vrb 0) arN)) (bnN 2)) (sq (ifS (unB asB (bi2 (dCo .IsNot) (clP 2 (cal 7) (arC (vrb 2) (arC (vrb 1) arN))) (cst .non))) (rse 1 1 (arC (vrb 1) arN)) skp) (sq (asg (clP 2 (cal 12) (arC (vrb 2) (arC (clP 1 (cal 4) (arC (vrb 1) arN)) arN))) (bnN 3)) (ret (ofL mkT (arC (vrb 2) (arC (vrb 3) arN)))))))
theorem b13 (cal : Nat → Fn) (k : Nat) : semB MM cal (k + 2) v13 = some (g13 cal) := by kernel_rfl
theorem s13 (k : Nat) : sem MM (k + 1) 13 = runB 4 false (g13 (sem MM k)) := by
  show (match semB MM (sem MM k) (3 * k + 2) v13 with | some f => runB 4 false f | none => fun _ _ => .bad) = _
  rw [b13]
/-- _law_well -/
def g14 (cal : Nat → Fn) : Sm := (sq (asg (ifE (unB asB (bi2 (dCo .Lt) (vrb 1) (ofL dLen (arC (vrb 0) arN)))) (bi2 dIx (vrb 0) (vrb 1)) (bi2 dAdd (bi2 dAdd (bi2 dMod (ofL dInt (arC (ofL dSum (arC (slE (vrb 0) opN (opS (cst (.int (1))))) arN)) arN)) (cst (.int (999983)))) (bi2 dMul (cst (.int (11))) (vrb 1))) (cst (.int (5))))) (bnN 2)) (sq (asg (cst (.int (0))) (bnN 3)) (sq (forS (srcL srEn (arC (vrb 0) arN)) (bnT 2 (bnsC (bnN 4) (bnsC (bnN 5) bnsN))) (asg (bi2 dMod (ofL dInt (arC (bi2 dAdd (bi2 dAdd (bi2 dMul (vrb 3) (cst (.int (131)))) (ofL dAbs (arC (vrb 5) arN))) (vrb 4)) arN)) (cst (.int (2147483629)))) (bnN 3))) (ret (ofL mkC (arC (ifE (unB asB (bi2 (dCo .GtE) (vrb 2) (bi2 dPow (cst (.int (10))) (cst (.int (18)))))) (vrb 2) (cst (.int (0)))) (arC (bi2 dAdd (bi2 dMod (ofL dInt (arC (bi2 dAdd (ofL dAbs (arC (vrb 2) arN)) (bi2 dMul (cst (.int (31))) (vrb 3))) arN)) (cst (.int (2147483629)))) (bi2 dMul (cst (.int (17))) (vrb 1))) (arC (cst (.int (0))) arN))))))))
theorem b14 (cal : Nat → Fn) (k : Nat) : semB MM cal (k + 2) v14 = some (g14 cal) := by kernel_rfl
theorem s14 (k : Nat) : sem MM (k + 1) 14 = runB 6 false (g14 (sem MM k)) := by
  show (match semB MM (sem MM k) (3 * k + 2) v14 with | some f => runB 6 false f | none => fun _ _ => .bad) = _
  rw [b14]
/-- _law_draw -/
def g15 (cal : Nat → Fn) : Sm := (sq (ifS (unB asB (bi2 (dCo .Gt) (bi2 dIx (vrb 0) (cst (.int (0)))) (cst (.int (0))))) (sq (asg (bi2 dMod (ofL dInt (arC (bi2 dIx (vrb 0) (cst (.int (0)))) arN)) (vrb 1)) (bnN 3)) (sq (asT (bi2 dDiv (bi2 dIx (vrb 0) (cst (.int (0)))) (vrb 1)) (tgS (vrb 0) (cst (.int (0))))) (ret (vrb 3)))) skp) (sq (asT (bi2 dAdd (bi2 dIx (vrb 0) (cst (.int (2)))) (cst (.int (1)))) (tgS (vrb 0) (cst (.int (2))))) (sq (asg (bi2 dMod (bi2 dPow (ofL dInt (arC (bi2 dAdd (bi2 dAdd (bi2 dIx (vrb 0) (cst (.int (1)))) (bi2 dMul (cst (.int (8191))) (bi2 dIx (vrb 0) (cst (.int (2)))))) (cst (.int (65537)))) arN)) (cst (.int (5)))) (cst (.int (2147483647)))) (bnN 2)) (ret (bi2 dMod (bi2 dDiv (bi2 dMod (ofL dInt (arC (bi2 dMul (bi2 dAdd (vrb 2) (bi2 dMul (cst (.int (7))) (bi2 dIx (vrb 0) (cst (.int (2)))))) (cst (.int (48271)))) arN)) (cst (.int (2147483629)))) (cst (.int (9)))) (vrb 1))))))
theorem b15 (cal : Nat → Fn) (k : Nat) : semB MM cal (k + 2) v15 = some (g15 cal) := by kernel_rfl
theorem s15 (k : Nat) : sem MM (k + 1) 15 = runB 4 false (g15 (sem MM k)) := by
  show (match semB MM (sem MM k) (3 * k + 2) v15 with | some f => runB 4 false f | none => fun _ _ => .bad) = _
  rw [b15]
/-- _law_pick -/
def g16 (cal : Nat → Fn) : Sm := (ret (bi2 dIx (vrb 1) (clP 2 (cal 15) (arC (vrb 0) (arC (ofL dLen (arC (vrb 1) arN)) arN)))))
theorem b16 (cal : Nat → Fn) (k : Nat) : semB MM cal (k + 2) v16 = some (g16 cal) := by kernel_rfl
theorem s16 (k : Nat) : sem MM (k + 1) 16 = runB 2 false (g16 (sem MM k)) := by
  show (match semB MM (sem MM k) (3 * k + 2) v16 with | some f => runB 2 false f | none => fun _ _ => .bad) = _
  rw [b16]
/-- _law_mixed -/
def g17 (cal : Nat → Fn) : Sm := (sq (asg (ofL (dList mkC) (arC (vrb 1) arN)) (bnN 2)) (ret (lcN mkL [3] (srcL (rgN 1) (arC (ofL dLen (arC (vrb 2) arN)) arN)) (bnN 3) yes (mthL dPop (vrb 2) (arC (clP 2 (cal 15) (arC (vrb 0) (arC (ofL dLen (arC (vrb 2) arN)) arN))) arN)))))
theorem b17 (cal : Nat → Fn) (k : Nat) : semB MM cal (k + 2) v17 = some (g17 cal) := by kernel_rfl
theorem s17 (k : Nat) : sem MM (k + 1) 17 = runB 4 false (g17 (sem MM k)) := by
  show (match semB MM (sem MM k) (3 * k + 2) v17 with | some f => runB 4 false f | none => fun _ _ => .bad) = _
  rw [b17]
/-- _law_same -/
def g18 (cal : Nat → Fn) : Sm := (sq (ifS (unB asB (ofL dIsi (arC (vrb 1) (arC (cst (.ty "dict")) arN)))) (ret (andV (ofL dIsi (arC (vrb 0) (arC (cst (.ty "dict")) arN))) (clP 2 (cal 18) (arC (un1 dItems (vrb 0)) (arC (un1 dItems (vrb 1)) arN))))) skp) (sq (ifS (unB asB (ofL dIsi (arC (vrb 1) (arC (ofL mkT (arC (cst (.ty "list")) (arC (cst (.ty "tuple")) arN))) arN)))) (sq (ifS (orB (unB asB (bi2 (dCo .NotEq) (ofL dIsi (arC (vrb 0) (arC (cst (.ty "list")) arN))) (ofL dIsi (arC (vrb 1) (arC (cst (.ty "list")) arN))))) (unB asB (bi2 (dCo .NotEq) (ofL dIsi (arC (vrb 0) (arC (cst (.ty "tuple")) arN))) (ofL dIsi (arC (vrb 1) (arC (cst (.ty "tuple")) arN)))))) (ret (cst (.bl false))) skp) (ret (andV (bi2 (dCo .Eq) (ofL dLen (arC (vrb 0) arN)) (ofL dLen (arC (vrb 1) arN))) (ofL dAll (arC (lcN mkL [2, 3] (srcL srZp (arC (vrb 0) (arC (vrb 1) arN))) (bnT 2 (bnsC (bnN 2) (bnsC (bnN 3) bnsN))) yes (clP 2 (cal 18) (arC (vrb 2) (arC (vrb 3) arN)))) arN))))) skp) (sq (ifS (orB (unB asB (ofL dIsi (arC (vrb 0) (arC (ofL mkT (arC (cst (.ty "dict")) (arC (cst (.ty "list")) (arC (cst (.ty "tuple")) arN)))) arN)))) (unB asB (bi2 (dCo .NotEq) (ofL dIsi (arC (vrb 0) (arC (cst (.ty "bool")) arN))) (ofL dIsi (arC (vrb 1) (arC (cst (.ty "bool")) arN)))))) (ret (cst (.bl false))) skp) (ret (bi2 (dCo .Eq) (vrb 0) (vrb 1))))))
theorem b18 (cal : Nat → Fn) (k : Nat) : semB MM cal (k + 2) v18 = some (g18 cal) := by kernel_rfl
theorem s18 (k : Nat) : sem MM (k + 1) 18 = runB 4 false (g18 (sem MM k)) := by
  show (match semB MM (sem MM k) (3 * k + 2) v18 with | some f => runB 4 false f | none => fun _ _ => .bad) = _
  rw [b18]
/-- _law_loose -/
def g19 (cal : Nat → Fn) : Sm := (sq (ifS (unB asB (ofL dIsi (arC (vrb 1) (arC (cst (.ty "dict")) arN)))) (ret (ofL dDict (arC (lcN mkL [4] (src1 srSq (clP 2 (cal 17) (arC (vrb 0) (arC (ofL (dList mkL) (arC (vrb 1) arN)) arN)))) (bnN 4) yes (ofL mkT (arC (vrb 4) (arC (clP 2 (cal 19) (arC (vrb 0) (arC (bi2 dIx (vrb 1) (vrb 4)) arN))) arN)))) arN))) skp) (sq (ifS (notB (unB asB (ofL dIsi (arC (vrb 1) (arC (ofL mkT (arC (cst (.ty "list")) (arC (cst (.ty "tuple")) arN))) arN))))) (ret (vrb 1)) skp) (sq (asg (lcN mkL [3] (src1 srSq (vrb 1)) (bnN 3) yes (clP 2 (cal 19) (arC (vrb 0) (arC (vrb 3) arN)))) (bnN 2)) (ret (ifE (unB asB (bi2 (dCo .Eq) (clP 2 (cal 15) (arC (vrb 0) (arC (cst (.int (2))) arN))) (cst (.int (0))))) (vrb 2) (ofL dTuple (arC (vrb 2) arN)))))))
theorem b19 (cal : Nat → Fn) (k : Nat) : semB MM cal (k + 2) v19 = some (g19 cal) := by kernel_rfl
theorem s19 (k : Nat) : sem MM (k + 1) 19 = runB 5 false (g19 (sem MM k)) := by
  show (match semB MM (sem MM k) (3 * k + 2) v19 with | some f => runB 5 false f | none => fun _ _ => .bad) = _
  rw [b19]
/-- _law_spoiled -/
def g20 (cal : Nat → Fn) : Sm := (ifS (unB asB (ofL dIsi (arC (vrb 0) (arC (cst (.ty "dict")) arN)))) (sq (forS (src1 srSq (ofL (dList mkL) (arC (vrb 0) arN))) (bnN 1) (dro (clP 1 (cal 20) (arC (bi2 dIx (vrb 0) (vrb 1)) arN)))) (asT (cst (.str "late9")) (tgS (vrb 0) (cst (.str "late9"))))) (ifS (unB asB (ofL dIsi (arC (vrb 0) (arC (ofL mkT (arC (cst (.ty "list")) (arC (cst (.ty "tuple")) arN))) arN)))) (sq (forS (src1 srSq (vrb 0)) (bnN 2) (dro (clP 1 (cal 20) (arC (vrb 2) arN)))) (ifS (unB asB (ofL dIsi (arC (vrb 0) (arC (cst (.ty "list")) arN)))) (dro (mthL dApp (vrb 0) (arC (cst (.str "late9")) arN))) skp)) skp))
theorem b20 (cal : Nat → Fn) (k : Nat) : semB MM cal (k + 2) v20 = some (g20 cal) := by kernel_rfl
theorem s20 (k : Nat) : sem MM (k + 1) 20 = runB 3 false (g20 (sem MM k)) := by
  show (match semB MM (sem MM k) (3 * k + 2) v20 with | some f => runB 3 false f | none => fun _ _ => .bad) = _
  rw [b20]
/-- _law_g_is_int -/
def g21 (cal : Nat → Fn) : Sm := (ret (andV (ofL dIsi (arC (vrb 0) (arC (cst (.ty "int")) arN))) (andV (un1 notV (ofL dIsi (arC (vrb 0) (arC (cst (.ty "bool")) arN)))) (bi2 (dCo .GtE) (vrb 0) (cst (.int (0)))))))
theorem b21 (cal : Nat → Fn) (k : Nat) : semB MM cal (k + 2) v21 = some (g21 cal) := by kernel_rfl
theorem s21 (k : Nat) : sem MM (k + 1) 21 = runB 1 false (g21 (sem MM k)) := by
  show (match semB MM (sem MM k) (3 * k + 2) v21 with | some f => runB 1 false f | none => fun _ _ => .bad) = _
  rw [b21]
/-- _law_g_is_name -/
def g22 (cal : Nat → Fn) : Sm := (sq (ifS (orB (notB (unB asB (ofL dIsi (arC (vrb 0) (arC (cst (.ty "str")) arN))))) (orB (notB (unB asB (chn .Lt .Lt (cst (.int (0))) (ofL dLen (arC (vrb 0) arN)) (cst (.int (9)))))) (unB asB (bi2 (dCo .NotIn) (bi2 dIx (vrb 0) (cst (.int (0)))) (cst (.str "abcdefghijklmnopqrstuvwxyz")))))) (ret (cst (.bl false))) skp) (ret (ofL dAll (arC (lcN mkL [1] (src1 srSq (vrb 0)) (bnN 1) yes (bi2 (dCo .In) (vrb 1) (cst (.str "abcdefghijklmnopqrstuvwxyz0123456789")))) arN))))
theorem b22 (cal : Nat → Fn) (k : Nat) : semB MM cal (k + 2) v22 = some (g22 cal) := by kernel_rfl
theorem s22 (k : Nat) : sem MM (k + 1) 22 = runB 2 false (g22 (sem MM k)) := by
  show (match semB MM (sem MM k) (3 * k + 2) v22 with | some f => runB 2 false f | none => fun _ _ => .bad) = _
  rw [b22]
/-- _law_g_form -/
def g23 (cal : Nat → Fn) : Sm := (sq (ifS (orB (notB (unB asB (ofL dIsi (arC (vrb 0) (arC (ofL mkT (arC (cst (.ty "list")) (arC (cst (.ty "tuple")) arN))) arN))))) (orB (unB asB (bi2 (dCo .Eq) (ofL dLen (arC (vrb 0) arN)) (cst (.int (0))))) (notB (unB asB (ofL dIsi (arC (bi2 dIx (vrb 0) (cst (.int (0)))) (arC (cst (.ty "str")) arN))))))) (ret (cst .non)) skp) (sq (ifS (unB asB (bi2 (dCo .Eq) (bi2 dIx (vrb 0) (cst (.int (0)))) (cst (.str "given")))) (ret (ifE (andB (unB asB (bi2 (dCo .Eq) (ofL dLen (arC (vrb 0) arN)) (cst (.int (2))))) (unB asB (clP 1 (cal 21) (arC (bi2 dIx (vrb 0) (cst (.int (1)))) arN)))) (ofL dTuple (arC (vrb 0) arN)) (cst .non))) skp) (sq (ifS (unB asB (bi2 (dCo .Eq) (bi2 dIx (vrb 0) (cst (.int (0)))) (cst (.str "either")))) (ret (ifE (andB (unB asB (bi2 (dCo .Eq) (ofL dLen (arC (vrb 0) arN)) (cst (.int (4))))) (unB asB (ofL dAll (arC (lcN mkL [1] (src1 srSq (slE (vrb 0) (opS (cst (.int (1)))) opN)) (bnN 1) yes (clP 1 (cal 21) (arC (vrb 1) arN))) arN)))) (ofL dTuple (arC (vrb 0) arN)) (cst .non))) skp) (sq (ifS (orB (unB asB (bi2 (dCo .NotIn) (bi2 dIx (vrb 0) (cst (.int (0)))) (ofL mkT (arC (cst (.str "made")) (arC (cst (.str "asked")) arN))))) (orB (unB asB (bi2 (dCo .NotEq) (ofL dLen (arC (vrb 0) arN)) (cst (.int (3))))) (notB (unB asB (clP 1 (cal 22) (arC (bi2 dIx (vrb 0) (cst (.int (1)))) arN)))))) (ret (cst .non)) skp) (sq (ifS (orB (notB (unB asB (ofL dIsi (arC (bi2 dIx (vrb 0) (cst (.int (2)))) (arC (ofL mkT (arC (cst (.ty "list")) (arC (cst (.ty "tuple")) arN))) arN))))) (notB (unB asB (ofL dAll (arC (lcN mkL [1] (src1 srSq (bi2 dIx (vrb 0) (cst (.int (2))))) (bnN 1) yes (clP 1 (cal 21) (arC (vrb 1) arN))) arN))))) (ret (cst .non)) skp) (ret (ofL mkT (arC (bi2 dIx (vrb 0) (cst (.int (0)))) (arC (bi2 dIx (vrb 0) (cst (.int (1)))) (arC (ofL dTuple (arC (bi2 dIx (vrb 0) (cst (.int (2)))) arN)) arN))))))))))
theorem b23 (cal : Nat → Fn) (k : Nat) : semB MM cal (k + 2) v23 = some (g23 cal) := by kernel_rfl
theorem s23 (k : Nat) : sem MM (k + 1) 23 = runB 2 false (g23 (sem MM k)) := by
  show (match semB MM (sem MM k) (3 * k + 2) v23 with | some f => runB 2 false f | none => fun _ _ => .bad) = _
  rw [b23]
/-- _law_g_named -/
def g24 (cal : Nat → Fn) : Sm := (ret (ifE (unB asB (bi2 (dCo .Eq) (bi2 dIx (vrb 0) (cst (.int (0)))) (cst (.str "given")))) (ofL mkL arN) (ifE (unB asB (bi2 (dCo .Eq) (bi2 dIx (vrb 0) (cst (.int (0)))) (cst (.str "either")))) (ofL (dList mkL) (arC (slE (vrb 0) (opS (cst (.int (1)))) opN) arN)) (ofL (dList mkL) (arC (bi2 dIx (vrb 0) (cst (.int (2)))) arN)))))
theorem b24 (cal : Nat → Fn) (k : Nat) : semB MM cal (k + 2) v24 = some (g24 cal) := by kernel_rfl
theorem s24 (k : Nat) : sem MM (k + 1) 24 = runB 1 false (g24 (sem MM k)) := by
  show (match semB MM (sem MM k) (3 * k + 2) v24 with | some f => runB 1 false f | none => fun _ _ => .bad) = _
  rw [b24]
/-- _law_g_why -/
def g25 (cal : Nat → Fn) : Sm := (sq (asg (clP 1 (cal 23) (arC (vrb 1) arN)) (bnN 2)) (sq (ifS (unB asB (bi2 (dCo .Is) (vrb 2) (cst .non))) (ret (cst (.str "form"))) skp) (sq (asg (clP 1 (cal 24) (arC (vrb 2) arN)) (bnN 3)) (sq (ifS (unB asB (ofL dAny (arC (lcN mkL [5] (src1 srSq (vrb 3)) (bnN 5) yes (bi2 (dCo .GtE) (vrb 5) (ofL dLen (arC (vrb 0) arN)))) arN))) (ret (cst (.str "ahead"))) skp) (sq (asg (lcN mkL [5] (src1 srSq (vrb 3)) (bnN 5) yes (bi2 (dCo .Eq) (bi2 dIx (bi2 dIx (vrb 0) (vrb 5)) (cst (.int (0)))) (cst (.str "asked")))) (bnN 4)) (sq (ifS (unB asB (bi2 (dCo .NotEq) (vrb 4) (ifE (unB asB (bi2 (dCo .Eq) (bi2 dIx (vrb 2) (cst (.int (0)))) (cst (.str "either")))) (ofL mkL (arC (cst (.bl true)) (arC (cst (.bl false)) (arC (cst (.bl false)) arN)))) (bi2 dMul (ofL mkL (arC (cst (.bl false)) arN)) (ofL dLen (arC (vrb 3) arN)))))) (ret (cst (.str "kind"))) skp) (ret (ifE (andB (unB asB (bi2 (dCo .Eq) (bi2 dIx (vrb 2) (cst (.int (0)))) (cst (.str "either")))) (unB asB (bi2 (dCo .Eq) (bi2 dIx (vrb 3) (cst (.int (1)))) (bi2 dIx (vrb 3) (cst (.int (2))))))) (cst (.str "alike")) (cst .non)))))))))
theorem b25 (cal : Nat → Fn) (k : Nat) : semB MM cal (k + 2) v25 = some (g25 cal) := by kernel_rfl
theorem s25 (k : Nat) : sem MM (k + 1) 25 = runB 6 false (g25 (sem MM k)) := by
  show (match semB MM (sem MM k) (3 * k + 2) v25 with | some f => runB 6 false f | none => fun _ _ => .bad) = _
  rw [b25]
/-- _law_g_fault -/
def g26 (cal : Nat → Fn) : Sm := (sq (ifS (notB (unB asB (ofL dIsi (arC (vrb 0) (arC (ofL mkT (arC (cst (.ty "list")) (arC (cst (.ty "tuple")) arN))) arN))))) (ret (ofL mkT (arC (cst (.int (0))) (arC (cst (.str "form")) arN)))) skp) (sq (asg (ofL mkC arN) (bnN 1)) (sq (forS (srcL srEn (arC (vrb 0) arN)) (bnT 2 (bnsC (bnN 2) (bnsC (bnN 3) bnsN))) (sq (asg (clP 2 (cal 25) (arC (vrb 1) (arC (vrb 3) arN))) (bnN 4)) (sq (ifS (andB (unB asB (bi2 (dCo .Is) (vrb 4) (cst .non))) (unB asB (bi2 (dCo .In) (clP 1 (cal 23) (arC (vrb 3) arN)) (vrb 1)))) (asg (cst (.str "twice")) (bnN 4)) skp) (sq (ifS (unB asB (bi2 (dCo .IsNot) (vrb 4) (cst .non))) (ret (ofL mkT (arC (vrb 2) (arC (vrb 4) arN)))) skp) (dro (mthL dApp (vrb 1) (arC (clP 1 (cal 23) (arC (vrb 3) arN)) arN))))))) (ret (cst .non)))))
theorem b26 (cal : Nat → Fn) (k : Nat) : semB MM cal (k + 2) v26 = some (g26 cal) := by kernel_rfl
theorem s26 (k : Nat) : sem MM (k + 1) 26 = runB 5 false (g26 (sem MM k)) := by
  show (match semB MM (sem MM k) (3 * k + 2) v26 with | some f => runB 5 false f | none => fun _ _ => .bad) = _
  rw [b26]
/-- _law_g_parts -/
def g27 (cal : Nat → Fn) : Sm := (ret (lcN mkL [1, 2] (srcL srEn (arC (vrb 0) arN)) (bnT 2 (bnsC (bnN 1) (bnsC (bnN 2) bnsN))) (unB asB (bi2 (dCo .NotEq) (bi2 dIx (vrb 2) (cst (.int (0)))) (cst (.str "asked")))) (vrb 1)))
theorem b27 (cal : Nat → Fn) (k : Nat) : semB MM cal (k + 2) v27 = some (g27 cal) := by kernel_rfl
theorem s27 (k : Nat) : sem MM (k + 1) 27 = runB 3 false (g27 (sem MM k)) := by
  show (match semB MM (sem MM k) (3 * k + 2) v27 with | some f => runB 3 false f | none => fun _ _ => .bad) = _
  rw [b27]
/-- _law_g_row -/
def g28 (cal : Nat → Fn) : Sm := (sq (asT (ofL mkT (arC (clP 1 (cal 27) (arC (vrb 1) arN)) (arC (lcN mkL [9, 10] (srcL srEn (arC (vrb 1) arN)) (bnT 2 (bnsC (bnN 9) (bnsC (bnN 10) bnsN))) (unB asB (bi2 (dCo .Eq) (bi2 dIx (vrb 10) (cst (.int (0)))) (cst (.str "asked")))) (vrb 9)) arN))) (tgT 2 (tgsC (tgN 2) (tgsC (tgN 3) tgsN)))) (sq (asg (clP 2 (cal 15) (arC (vrb 0) (arC (cst (.int (12))) arN))) (bnN 4)) (sq (ifS (unB asB (bi2 (dCo .Eq) (vrb 4) (cst (.int (0))))) (ret (ofL mkT (arC (cst (.str "given")) (arC (clP 2 (cal 16) (arC (vrb 0) (arC (ofL mkL (arC (cst (.int (0))) (arC (cst (.int (1))) (arC (cst (.int (2))) (arC (cst (.int (7))) (arC (cst (.int (40))) arN)))))) arN))) arN)))) skp) (sq (ifS (andB (unB asB (bi2 (dCo .Lt) (vrb 4) (cst (.int (4))))) (andB (unB asB (bi2 (dCo .Gt) (ofL dLen (arC (vrb 2) arN)) (cst (.int (1))))) (unB asB (bi2 (dCo .NotEq) (vrb 3) (ofL mkL arN))))) (sq (asg (slE (clP 2 (cal 17) (arC (vrb 0) (arC (vrb 2) arN))) opN (opS (cst (.int (2))))) (bnN 8)) (ret (ofL mkT (arC (cst (.str "either")) (arC (clP 2 (cal 16) (arC (vrb 0) (arC (vrb 3) arN))) (arC (bi2 dIx (vrb 8) (cst (.int (0)))) (arC (bi2 dIx (vrb 8) (cst (.int (1)))) arN))))))) skp) (sq (asg (clP 2 (cal 16) (arC (vrb 0) (arC (ofL mkL (arC (cst (.str "f")) (arC (cst (.str "g")) (arC (cst (.str "h1")) (arC (cst (.str "t")) (arC (cst (.str "made")) (arC (cst (.str "eithera8")) arN))))))) arN))) (bnN 5)) (sq (asg (ifE (unB asB (bi2 (dCo .NotEq) (vrb 2) (ofL mkL arN))) (clP 2 (cal 15) (arC (vrb 0) (arC (cst (.int (4))) arN))) (cst (.int (0)))) (bnN 6)) (sq (asg (ofL dTuple (arC (lcN mkL [11] (srcL (rgN 1) (arC (vrb 6) arN)) (bnN 11) yes (clP 2 (cal 16) (arC (vrb 0) (arC (vrb 2) arN)))) arN)) (bnN 7)) (ret (ofL mkT (arC (ifE (unB asB (bi2 (dCo .Lt) (vrb 4) (cst (.int (6))))) (cst (.str "asked")) (cst (.str "made"))) (arC (vrb 5) (arC (vrb 7) arN))))))))))))
theorem b28 (cal : Nat → Fn) (k : Nat) : semB MM cal (k + 2) v28 = some (g28 cal) := by kernel_rfl
theorem s28 (k : Nat) : sem MM (k + 1) 28 = runB 12 false (g28 (sem MM k)) := by
  show (match semB MM (sem MM k) (3 * k + 2) v28 with | some f => runB 12 false f | none => fun _ _ => .bad) = _
  rw [b28]
/-- _law_g_drawn -/
def g29 (cal : Nat → Fn) : Sm := (sq (asg (ofL mkC arN) (bnN 2)) (sq (forS (srcL (rgN 1) (arC (clP 2 (cal 15) (arC (vrb 0) (arC (bi2 dAdd (vrb 1) (cst (.int (1)))) arN))) arN)) (bnN 3) (sq (asg (clP 2 (cal 28) (arC (vrb 0) (arC (vrb 2) arN))) (bnN 4)) (dro (mthL dExt (vrb 2) (arC (ifE (unB asB (bi2 (dCo .NotIn) (vrb 4) (vrb 2))) (ofL mkL (arC (vrb 4) arN)) (ofL mkL arN)) arN))))) (ret (vrb 2))))
theorem b29 (cal : Nat → Fn) (k : Nat) : semB MM cal (k + 2) v29 = some (g29 cal) := by kernel_rfl
theorem s29 (k : Nat) : sem MM (k + 1) 29 = runB 5 true (g29 (sem MM k)) := by
  show (match semB MM (sem MM k) (3 * k + 2) v29 with | some f => runB 5 true f | none => fun _ _ => .bad) = _
  rw [b29]
/-- _law_g_bent_row -/
def g30 (cal : Nat → Fn) : Sm := (sq (par2 3 4 (arC (bi2 dIx (vrb 1) (vrb 2)) (arC (ofL dLen (arC (vrb 1) arN)) arN))) (sq (asg (ofL mkC (arC (cst .non) (arC (cst (.int (5))) (arC (bi2 dIx (vrb 3) (cst (.int (0)))) (arC (ofL mkL arN) (arC (ofL mkT arN) (arC (slE (vrb 3) opN (opS (cst (.int (1))))) (arC (bi2 dAdd (vrb 3) (ofL mkT (arC (cst (.int (0))) arN))) (arC (bi2 dAdd (ofL mkT (arC (cst (.str "mode")) arN)) (slE (vrb 3) (opS (cst (.int (1)))) opN)) (arC (bi2 dIx (vrb 1) (cst (.int (0)))) (arC (bi2 dAdd (ofL mkT (arC (cst (.int (5))) arN)) (slE (vrb 3) (opS (cst (.int (1)))) opN)) (arC newD (arC (ofL mkL (arC (ofL (dList mkL) (arC (vrb 3) arN)) arN)) arN))))))))))))) (bnN 5)) (sq (asg (clP 2 (cal 16) (arC (vrb 0) (arC (ofL mkL (arC (vrb 4) (arC (vrb 2) (arC (bi2 dAdd (vrb 2) (cst (.int (1)))) (arC (un1 dNeg (cst (.int (1)))) (arC (cst (.bl true)) (arC (cst .non) (arC (cst (.str "0")) (arC (ofL mkT (arC (cst (.int (0))) arN)) (arC (cst (.int (0))) (arC (cst (.int (1))) arN))))))))))) arN))) (bnN 6)) (sq (ifS (unB asB (bi2 (dCo .Eq) (bi2 dIx (vrb 3) (cst (.int (0)))) (cst (.str "given")))) (ret (clP 2 (cal 16) (arC (vrb 0) (arC (bi2 dAdd (vrb 5) (ofL mkL (arC (ofL mkT (arC (cst (.str "given")) (arC (vrb 6) arN))) (arC (ofL mkT (arC (cst (.str "given")) (arC (ofL mkT (arC (cst (.int (1))) arN)) arN))) (arC (ofL mkT (arC (cst (.str "given")) arN)) (arC (ofL mkT (arC (cst (.str "made")) (arC (cst (.str "f")) (arC (vrb 6) arN)))) arN)))))) arN)))) skp) (sq (ifS (unB asB (bi2 (dCo .Eq) (bi2 dIx (vrb 3) (cst (.int (0)))) (cst (.str "either")))) (sq (asg (bi2 dAdd (cst (.int (1))) (clP 2 (cal 15) (arC (vrb 0) (arC (cst (.int (3))) arN)))) (bnN 8)) (sq (dro (mthL dExt (vrb 5) (arC (ofL mkL (arC (bi2 dAdd (bi2 dAdd (slE (vrb 3) opN (opS (vrb 8))) (ofL mkT (arC (vrb 6) arN))) (slE (vrb 3) (opS (bi2 dAdd (vrb 8) (cst (.int (1))))) opN)) (arC (bi2 dAdd (slE (vrb 3) opN (opS (cst (.int (2))))) (ofL mkT (arC (bi2 dIx (vrb 3) (cst (.int (3)))) (arC (bi2 dIx (vrb 3) (cst (.int (2)))) arN)))) (arC (bi2 dAdd (slE (vrb 3) opN (opS (cst (.int (2))))) (ofL mkT (arC (bi2 dIx (vrb 3) (cst (.int (2)))) (arC (bi2 dIx (vrb 3) (cst (.int (2)))) arN)))) arN)))) arN))) (ret (clP 2 (cal 16) (arC (vrb 0) (arC (vrb 5) arN)))))) skp) (sq (asg (clP 2 (cal 16) (arC (vrb 0) (arC (ofL mkL (arC (cst (.str "")) (arC (cst (.str "F")) (arC (cst (.str "f_")) (arC (cst (.str "nineletts")) (arC (cst (.str "1f")) (arC (cst .non) (arC (cst (.int (5))) (arC (cst (.str "f g")) (arC (cst (.str "f\n")) (arC (ofL mkL (arC (cst (.str "f")) arN)) (arC (cst (.str "f")) (arC (cst (.str "g")) arN))))))))))))) arN))) (bnN 7)) (sq (dro (mthL dExt (vrb 5) (arC (ofL mkL (arC (ofL mkT (arC (bi2 dIx (vrb 3) (cst (.int (0)))) (arC (vrb 7) (arC (bi2 dIx (vrb 3) (cst (.int (2)))) arN)))) (arC (ofL mkT (arC (bi2 dIx (vrb 3) (cst (.int (0)))) (arC (bi2 dIx (vrb 3) (cst (.int (1)))) (arC (bi2 dAdd (ofL (dList mkL) (arC (bi2 dIx (vrb 3) (cst (.int (2)))) arN)) (ofL mkL (arC (vrb 6) arN))) arN)))) (arC (ofL mkT (arC (bi2 dIx (vrb 3) (cst (.int (0)))) (arC (bi2 dIx (vrb 3) (cst (.int (1)))) (arC (slE (bi2 dIx (vrb 3) (cst (.int (2)))) (opS (cst (.int (1)))) opN) arN)))) arN)))) arN))) (sq (dro (mthL dExt (vrb 5) (arC (ofL mkL (arC (bi2 dAdd (ofL mkT (arC (ifE (unB asB (bi2 (dCo .Eq) (bi2 dIx (vrb 3) (cst (.int (0)))) (cst (.str "made")))) (cst (.str "asked")) (cst (.str "made"))) arN)) (slE (vrb 3) (opS (cst (.int (1)))) opN)) (arC (ofL mkT (arC (bi2 dIx (vrb 3) (cst (.int (0)))) (arC (bi2 dIx (vrb 3) (cst (.int (1)))) (arC (cst (.str "ab")) arN)))) (arC (ofL mkT (arC (bi2 dIx (vrb 3) (cst (.int (0)))) (arC (bi2 dIx (vrb 3) (cst (.int (1)))) (arC (vrb 6) arN)))) arN)))) arN))) (ret (clP 2 (cal 16) (arC (vrb 0) (arC (vrb 5) arN))))))))))))
theorem b30 (cal : Nat → Fn) (k : Nat) : semB MM cal (k + 2) v30 = some (g30 cal) := by kernel_rfl
theorem s30 (k : Nat) : sem MM (k + 1) 30 = runB 9 false (g30 (sem MM k)) := by
  show (match semB MM (sem MM k) (3 * k + 2) v30 with | some f => runB 9 false f | none => fun _ _ => .bad) = _
  rw [b30]
/-- _law_g_bent -/
def g31 (cal : Nat → Fn) : Sm := (sq (asg (clP 2 (cal 15) (arC (vrb 0) (arC (cst (.int (8))) arN))) (bnN 2)) (sq (ifS (orB (unB asB (bi2 (dCo .Eq) (vrb 2) (cst (.int (0))))) (unB asB (bi2 (dCo .Eq) (vrb 1) (ofL mkL arN)))) (ret (clP 2 (cal 16) (arC (vrb 0) (arC (ofL mkL (arC (cst .non) (arC (cst (.int (5))) (arC (cst (.str "ab")) (arC newD (arC (cst (.bl true)) (arC (vrb 1) (arC (ofL mkL (arC (cst .non) arN)) (arC (ofL mkL (arC (ofL mkL arN) arN)) (arC (cst (.dct [(.str "a")] [(.int (1))])) (arC (ofL mkL (arC (vrb 1) arN)) arN))))))))))) arN)))) skp) (sq (par2 3 4 (arC (clP 2 (cal 15) (arC (vrb 0) (arC (ofL dLen (arC (vrb 1) arN)) arN))) (arC (clP 2 (cal 15) (arC (vrb 0) (arC (ofL dLen (arC (vrb 1) arN)) arN))) arN))) (sq (ifS (unB asB (bi2 (dCo .Lt) (vrb 2) (cst (.int (5))))) (ret (bi2 dAdd (bi2 dAdd (slE (vrb 1) opN (opS (vrb 3))) (ofL mkL (arC (clP 3 (cal 30) (arC (vrb 0) (arC (vrb 1) (arC (vrb 3) arN)))) arN))) (slE (vrb 1) (opS (bi2 dAdd (vrb 3) (cst (.int (1))))) opN))) skp) (sq (ifS (unB asB (bi2 (dCo .Eq) (vrb 2) (cst (.int (5))))) (ret (bi2 dAdd (slE (vrb 1) opN (opS (vrb 3))) (slE (vrb 1) (opS (bi2 dAdd (vrb 3) (cst (.int (1))))) opN))) skp) (sq (ifS (unB asB (bi2 (dCo .Eq) (vrb 2) (cst (.int (6))))) (ret (bi2 dAdd (vrb 1) (ofL mkL (arC (bi2 dIx (vrb 1) (vrb 3)) arN)))) skp) (sq (asg (ofL (dList mkC) (arC (vrb 1) arN)) (bnN 5)) (sq (asT (ofL mkT (arC (bi2 dIx (vrb 5) (vrb 4)) (arC (bi2 dIx (vrb 5) (vrb 3)) arN))) (tgT 2 (tgsC (tgS (vrb 5) (vrb 3)) (tgsC (tgS (vrb 5) (vrb 4)) tgsN)))) (ret (vrb 5))))))))))
theorem b31 (cal : Nat → Fn) (k : Nat) : semB MM cal (k + 2) v31 = some (g31 cal) := by kernel_rfl
theorem s31 (k : Nat) : sem MM (k + 1) 31 = runB 6 true (g31 (sem MM k)) := by
  show (match semB MM (sem MM k) (3 * k + 2) v31 with | some f => runB 6 true f | none => fun _ _ => .bad) = _
  rw [b31]
/-- _law_judged_right -/
def g32 (cal : Nat → Fn) : Sm := (sq (par2 2 3 (arC (clP 1 (cal 26) (arC (vrb 1) arN)) (arC (clP 2 (cal 19) (arC (vrb 0) (arC (vrb 1) arN))) arN))) (sq (asg (ofL dRepr (arC (vrb 3) arN)) (bnN 4)) (sq (asg (ofL mkL (arC (clP 1 (cal 9) (arC (vrb 3) arN)) (arC (clK 1 0 1 [0] (cal 9) arN (arC (vrb 1) arN)) arN))) (bnN 5)) (sq (ifS (orB (notB (unB asB (clP 2 (cal 18) (arC (vrb 5) (arC (ofL mkL (arC (vrb 2) (arC (vrb 2) arN))) arN))))) (unB asB (bi2 (dCo .NotEq) (ofL dRepr (arC (vrb 3) arN)) (vrb 4)))) (ret (cst (.bl false))) skp) (sq (ifS (notB (unB asB (clP 2 (cal 18) (arC (ofL mkL (arC (clP 1 (cal 10) (arC (vrb 3) arN)) (arC (clK 1 0 1 [0] (cal 10) arN (arC (vrb 1) arN)) arN))) (arC (bi2 dMul (ofL mkL (arC (bi2 (dCo .Is) (vrb 2) (cst .non)) arN)) (cst (.int (2)))) arN))))) (ret (cst (.bl false))) skp) (sq (asg (ifE (unB asB (bi2 (dCo .Is) (vrb 2) (cst .non))) (ofL mkL (arC (cst (.str "row")) (arC (cst .non) arN))) (ofL mkL (arC (cst (.str "web")) (arC (bi2 dIx (vrb 2) (cst (.int (0)))) arN)))) (bnN 6)) (ret (clP 2 (cal 18) (arC (metX hds "told" (clP 2 (cal 13) (arC (vrb 1) (arC (cst .non) arN)))) (arC (vrb 6) arN))))))))))
theorem b32 (cal : Nat → Fn) (k : Nat) : semB MM cal (k + 2) v32 = some (g32 cal) := by kernel_rfl
theorem s32 (k : Nat) : sem MM (k + 1) 32 = runB 7 true (g32 (sem MM k)) := by
  show (match semB MM (sem MM k) (3 * k + 2) v32 with | some f => runB 7 true f | none => fun _ _ => .bad) = _
  rw [b32]
/-- _law_put_right -/
def g33 (cal : Nat → Fn) : Sm := (sq (asg (bi2 dAddC (lcN mkC [13] (srcL (rgN 1) (arC (cst (.int (3))) arN)) (bnN 13) yes (clP 2 (cal 28) (arC (vrb 0) (arC (vrb 1) arN)))) (ifE (unB asB (bi2 (dCo .NotEq) (vrb 1) (ofL mkL arN))) (ofL mkL (arC (clP 2 (cal 16) (arC (vrb 0) (arC (vrb 1) arN))) arN)) (ofL mkL arN))) (bnN 2)) (sq (asg (bi2 dAdd (vrb 1) (ofL mkL (arC (clP 2 (cal 28) (arC (vrb 0) (arC (vrb 1) arN))) arN))) (bnN 3)) (sq (dro (mthL dExt (vrb 2) (arC (bi2 dAdd (lcN mkL [13] (srcL (rgN 1) (arC (cst (.int (5))) arN)) (bnN 13) yes (clP 3 (cal 30) (arC (vrb 0) (arC (vrb 3) (arC (ofL dLen (arC (vrb 1) arN)) arN))))) (ofL mkL (arC (ofL mkT (arC (cst (.str "given")) (arC (bi2 dPow (cst (.int (9))) (cst (.int (20)))) arN))) (arC (cst (.int (5))) (arC (cst (.str "given")) (arC newD arN)))))) arN))) (sq (forS (src1 srSq (vrb 2)) (bnN 4) (sq (asT (ofL mkT (arC (clP 2 (cal 25) (arC (vrb 1) (arC (vrb 4) arN))) (arC (clP 2 (cal 35) (arC (vrb 0) (arC (vrb 1) arN))) (arC (clP 2 (cal 35) (arC (vrb 0) (arC (vrb 4) arN))) arN)))) (tgT 3 (tgsC (tgN 5) (tgsC (tgN 6) (tgsC (tgN 7) tgsN))))) (ifS (unB asB (bi2 (dCo .IsNot) (vrb 5) (cst .non))) (sq (asg (metX hds "told" (clP 2 (cal 13) (arC (vrb 6) (arC (vrb 7) arN)))) (bnN 8)) (sq (ifS (unB asB (ofL dIsi (arC (vrb 7) (arC (cst (.ty "list")) arN)))) (dro (mthL dApp (vrb 7) (arC (cst (.str "late")) arN))) skp) (ifS (notB (unB asB (clP 2 (cal 18) (arC (vrb 8) (arC (ofL mkL (arC (cst (.str "row")) (arC (vrb 7) arN))) arN))))) (ret (cst (.bl false))) skp))) (sq (par2 9 10 (arC (clP 1 (cal 23) (arC (vrb 4) arN)) (arC (ofL dRepr (arC (ofL mkL (arC (vrb 6) (arC (vrb 7) arN))) arN)) arN))) (sq (asg (ofL mkT (arC (ifE (unB asB (bi2 (dCo .In) (vrb 9) (vrb 1))) (vrb 1) (bi2 dAdd (vrb 1) (ofL mkL (arC (vrb 9) arN)))) (arC (ifE (unB asB (bi2 (dCo .In) (vrb 9) (vrb 1))) (mthL dIdx (vrb 1) (arC (vrb 9) arN)) (ofL dLen (arC (vrb 1) arN))) arN))) (bnN 11)) (sq (asg (ofL mkC (arC (clP 2 (cal 13) (arC (vrb 6) (arC (vrb 7) arN))) (arC (clK 2 0 2 [1, 0] (cal 13) arN (arC (vrb 9) (arC (vrb 1) arN))) arN))) (bnN 12)) (sq (ifS (orB (notB (unB asB (clP 2 (cal 18) (arC (vrb 12) (arC (ofL mkL (arC (vrb 11) (arC (vrb 11) arN))) arN))))) (unB asB (bi2 (dCo .NotEq) (ofL dRepr (arC (ofL mkL (arC (vrb 6) (arC (vrb 7) arN))) arN)) (vrb 10)))) (ret (cst (.bl false))) skp) (sq (dro (clP 1 (cal 20) (arC (vrb 12) arN))) (ifS (notB (unB asB (clP 2 (cal 18) (arC (clP 2 (cal 13) (arC (vrb 6) (arC (vrb 7) arN))) (arC (vrb 11) arN))))) (ret (cst (.bl false))) skp))))))))) (ret (cst (.bl true)))))))
theorem b33 (cal : Nat → Fn) (k : Nat) : semB MM cal (k + 2) v33 = some (g33 cal) := by kernel_rfl
theorem s33 (k : Nat) : sem MM (k + 1) 33 = runB 14 true (g33 (sem MM k)) := by
  show (match semB MM (sem MM k) (3 * k + 2) v33 with | some f => runB 14 true f | none => fun _ _ => .bad) = _
  rw [b33]
/-- law -/
def g34 (cal : Nat → Fn) : Sm := (sq (forS (srcL (rgN 1) (arC (cst (.int (3))) arN)) (bnN 1) (sq (asg (clP 2 (cal 14) (arC (vrb 0) (arC (vrb 1) arN))) (bnN 4)) (forS (srcL (rgN 1) (arC (cst (.int (5))) arN)) (bnN 5) (sq (asg (clP 2 (cal 29) (arC (vrb 4) (arC (cst (.int (14))) arN))) (bnN 2)) (sq (forS (src1 srSq (bi2 dAdd (ofL mkL (arC (vrb 2) arN)) (lcN mkL [9] (srcL (rgN 1) (arC (cst (.int (7))) arN)) (bnN 9) yes (clP 2 (cal 31) (arC (vrb 4) (arC (vrb 2) arN)))))) (bnN 6) (ifS (notB (unB asB (clP 2 (cal 32) (arC (vrb 4) (arC (vrb 6) arN))))) (ret (cst (.bl false))) skp)) (ifS (notB (unB asB (clP 2 (cal 33) (arC (vrb 4) (arC (vrb 2) arN))))) (ret (cst (.bl false))) skp)))))) (sq (asg (ofL mkC (arC (ofL mkT (arC (cst (.str "made")) (arC (cst (.str "one")) (arC (ofL mkT arN) arN)))) (arC (ofL mkT (arC (cst (.str "made")) (arC (cst (.str "f")) (arC (ofL mkT (arC (cst (.int (0))) (arC (cst (.int (0))) arN))) arN)))) (arC (ofL mkT (arC (cst (.str "made")) (arC (cst (.str "f")) (arC (ofL mkT (arC (cst (.int (1))) (arC (cst (.int (1))) arN))) arN)))) (arC (ofL mkT (arC (cst (.str "asked")) (arC (cst (.str "t")) (arC (ofL mkT (arC (cst (.int (2))) arN)) arN)))) arN))))) (bnN 2)) (sq (dro (mthL dApp (vrb 2) (arC (ofL mkT (arC (cst (.str "either")) (arC (cst (.int (3))) (arC (cst (.int (2))) (arC (cst (.int (0))) arN))))) arN))) (sq (asg (ofL mkC (arC (ofL mkT (arC (ofL mkT (arC (cst (.str "either")) (arC (cst (.int (3))) (arC (cst (.int (2))) (arC (cst (.int (2))) arN))))) (arC (cst (.str "alike")) arN))) (arC (ofL mkT (arC (ofL mkT (arC (cst (.str "either")) (arC (cst (.int (2))) (arC (cst (.int (0))) (arC (cst (.int (1))) arN))))) (arC (cst (.str "kind")) arN))) (arC (ofL mkT (arC (ofL mkT (arC (cst (.str "made")) (arC (cst (.str "f")) (arC (ofL mkT (arC (cst (.int (5))) arN)) arN)))) (arC (cst (.str "ahead")) arN))) arN)))) (bnN 3)) (sq (dro (mthL dExt (vrb 3) (arC (ofL mkL (arC (ofL mkT (arC (ofL mkT (arC (cst (.str "made")) (arC (cst (.str "f")) (arC (ofL mkT (arC (cst (.int (0))) (arC (cst (.int (0))) arN))) arN)))) (arC (cst (.str "twice")) arN))) (arC (ofL mkT (arC (ofL mkT (arC (cst (.str "made")) (arC (cst (.str "f")) (arC (ofL mkT (arC (cst (.int (3))) arN)) arN)))) (arC (cst (.str "kind")) arN))) (arC (ofL mkT (arC (ofL mkT (arC (cst (.str "either")) (arC (cst (.int (3))) (arC (cst (.int (3))) (arC (cst (.int (0))) arN))))) (arC (cst (.str "kind")) arN))) arN)))) arN))) (sq (dro (mthL dExt (vrb 3) (arC (ofL mkL (arC (ofL mkT (arC (ofL mkT (arC (cst (.str "asked")) (arC (cst (.str "t")) (arC (ofL mkT (arC (cst (.int (4))) (arC (cst (.int (3))) arN))) arN)))) (arC (cst (.str "kind")) arN))) (arC (ofL mkT (arC (ofL mkT (arC (cst (.str "either")) (arC (cst (.int (7))) (arC (cst (.int (2))) (arC (cst (.int (2))) arN))))) (arC (cst (.str "ahead")) arN))) (arC (ofL mkT (arC (ofL mkT (arC (cst (.str "either")) (arC (cst (.int (2))) (arC (cst (.int (1))) (arC (cst (.int (1))) arN))))) (arC (cst (.str "kind")) arN))) arN)))) arN))) (sq (dro (mthL dExt (vrb 3) (arC (ofL mkL (arC (ofL mkT (arC (ofL mkT (arC (cst (.str "given")) (arC (cst (.bl true)) arN))) (arC (cst (.str "form")) arN))) (arC (ofL mkT (arC (ofL mkT (arC (cst (.str "given")) (arC (un1 dNeg (cst (.int (1)))) arN))) (arC (cst (.str "form")) arN))) (arC (ofL mkT (arC (ofL mkT (arC (cst (.str "made")) (arC (cst (.str "one")) (arC (ofL mkL (arC (cst (.bl true)) arN)) arN)))) (arC (cst (.str "form")) arN))) (arC (ofL mkT (arC (ofL mkL arN) (arC (cst (.str "form")) arN))) arN))))) arN))) (sq (ifS (notB (unB asB (ofL dAll (arC (lcN mkL [7, 8] (src1 srSq (vrb 3)) (bnT 2 (bnsC (bnN 7) (bnsC (bnN 8) bnsN))) yes (clP 2 (cal 18) (arC (clP 1 (cal 9) (arC (bi2 dAdd (vrb 2) (ofL mkL (arC (vrb 7) arN))) arN)) (arC (ofL mkT (arC (cst (.int (5))) (arC (vrb 8) arN))) arN)))) arN)))) (ret (cst (.bl false))) skp) (ret (andV (bi2 (dCo .Is) (clP 1 (cal 9) (arC (ofL mkL arN) arN)) (cst .non)) (clP 2 (cal 18) (arC (clP 2 (cal 13) (arC (vrb 2) (arC (ofL mkL (arC (cst (.str "made")) (arC (cst (.str "one")) (arC (ofL mkL arN) arN)))) arN))) (arC (ofL mkT (arC (vrb 2) (arC (cst (.int (0))) arN))) arN)))))))))))))
theorem b34 (cal : Nat → Fn) (k : Nat) : semB MM cal (k + 2) v34 = some (g34 cal) := by kernel_rfl
theorem s34 (k : Nat) : sem MM (k + 1) 34 = runB 10 false (g34 (sem MM k)) := by
  show (match semB MM (sem MM k) (3 * k + 2) v34 with | some f => runB 10 false f | none => fun _ _ => .bad) = _
  rw [b34]
/-- _law_loose -/
def g35 (cal : Nat → Fn) : Sm := (sq (ifS (unB asB (ofL dIsi (arC (vrb 1) (arC (cst (.ty "dict")) arN)))) (ret (ofL dDict (arC (lcN mkL [4] (src1 srSq (clP 2 (cal 17) (arC (vrb 0) (arC (ofL (dList mkL) (arC (vrb 1) arN)) arN)))) (bnN 4) yes (ofL mkT (arC (vrb 4) (arC (clP 2 (cal 19) (arC (vrb 0) (arC (bi2 dIx (vrb 1) (vrb 4)) arN))) arN)))) arN))) skp) (sq (ifS (notB (unB asB (ofL dIsi (arC (vrb 1) (arC (ofL mkT (arC (cst (.ty "list")) (arC (cst (.ty "tuple")) arN))) arN))))) (ret (vrb 1)) skp) (sq (asg (lcN mkC [3] (src1 srSq (vrb 1)) (bnN 3) yes (clP 2 (cal 19) (arC (vrb 0) (arC (vrb 3) arN)))) (bnN 2)) (ret (ifE (unB asB (bi2 (dCo .Eq) (clP 2 (cal 15) (arC (vrb 0) (arC (cst (.int (2))) arN))) (cst (.int (0))))) (vrb 2) (ofL dTuple (arC (vrb 2) arN)))))))
theorem b35 (cal : Nat → Fn) (k : Nat) : semB MM cal (k + 2) v35 = some (g35 cal) := by kernel_rfl
theorem s35 (k : Nat) : sem MM (k + 1) 35 = runB 5 false (g35 (sem MM k)) := by
  show (match semB MM (sem MM k) (3 * k + 2) v35 with | some f => runB 5 false f | none => fun _ _ => .bad) = _
  rw [b35]
end K08
namespace Ev
open L2 PySem PySem.Spec PyProof.Rows
/-! ## the combinators, step by step -/
section
variable {ρ ρ1 : Env} {S S1 : Sto}
def kun (g : D → Sto → R D) : D → Sto → R D := g
def kb (g : D → D → Sto → R D) (f : Ex) (ρ : Env) : D → Sto → R D := fun a S => (f ρ S).bind (g a)
def kn (a : D) : List D → Sto → R (List D) := fun as S => .ok (a :: as) S
def kc (r : ExL) (ρ : Env) : D → Sto → R (List D) := fun a S => (r ρ S).bind (kn a)
def ki {α : Type} (a b : Env → Sto → R α) (ρ : Env) : Bool → Sto → R α := fun t S => if t = true then a ρ S else b ρ S
def kan (b : ExB) (ρ : Env) : Bool → Sto → R Bool := fun t S => if t = true then b ρ S else .ok false S
def kor (b : ExB) (ρ : Env) : Bool → Sto → R Bool := fun t S => if t = true then .ok true S else b ρ S
def knt : Bool → Sto → R Bool := fun t S => .ok (!t) S
def kav (b : Ex) (ρ : Env) : D → Sto → R D := fun d S1 => match d with
  | .bl true => b ρ S1
  | .bl false => .ok (.bl false) S1
  | _ => .bad
def kre : D → Sto → R Fl := fun d S => .ok (.rt d) S
def kdr (ρ : Env) : D → Sto → R Fl := fun _ S => .ok (.nx ρ) S
def kas (b : Bn) (ρ : Env) : D → Sto → R Fl := fun d S => match b d ρ with
  | some ρ1 => .ok (.nx ρ1) S
  | none => .bad
def knx : Env → Sto → R Fl := fun ρ S => .ok (.nx ρ) S
def kat (t : Tg) (ρ : Env) : D → Sto → R Fl := fun d S => (t d ρ S).bind knx
def kop : D → Sto → R (Option Int) := fun d S => match d with
  | .int i => .ok (some i) S
  | _ => .bad
def ks2 (a : D) (lo : Option Int) : Option Int → Sto → R D := fun hi S => dSl a lo hi S
def ks1 (a : D) (u : ExO) (ρ : Env) : Option Int → Sto → R D := fun lo S => (u ρ S).bind (ks2 a lo)
def ks0 (l u : ExO) (ρ : Env) : D → Sto → R D := fun a S => (l ρ S).bind (ks1 a u ρ)
def kf (n : Nat) (f : Fn) : List D → Sto → R D := fun ds S => if ds.length = n then f ds S else .bad
def kk2 (m n nk : Nat) (prm : List Nat) (f : Fn) (ds : List D) : List D → Sto → R D := fun es S2 => if ds.length = n ∧ es.length = nk ∧ (prmOf prm ds es).length = m then f (prmOf prm ds es) S2 else .bad
def kk1 (m n nk : Nat) (prm : List Nat) (f : Fn) (fk : ExL) (ρ : Env) : List D → Sto → R D := fun ds S => (fk ρ S).bind (kk2 m n nk prm f ds)
def km2 (g : D → List D → Sto → R D) (o : D) : List D → Sto → R D := fun as S => g o as S
def km1 (g : D → List D → Sto → R D) (fl : ExL) (ρ : Env) : D → Sto → R D := fun o S => match liOf S o with
  | some _ => (fl ρ S).bind (km2 g o)
  | none => .bad
def kp2 (i j : Nat) (ρ : Env) : List D → Sto → R Fl := fun ds S => match ds with
  | [x, y] => .ok (.nx ((ρ.set i (some x)).set j (some y))) S
  | _ => .bad
def kfo (bn : Bn) (body : Sm) (ρ : Env) : Src → Sto → R Fl := fun s S => forX s bn body (s.len S) 0 ρ S
def kt2 (o i d : D) (ρ : Env) : Unit → Sto → R Env := fun _ S => .ok ρ S
def kt1 (st : D → D → D → Sto → R Unit) (o d : D) (ρ : Env) : D → Sto → R Env := fun i S => (st o i d S).bind (kt2 o i d ρ)
def kt0 (st : D → D → D → Sto → R Unit) (fi : Ex) (d : D) (ρ : Env) : D → Sto → R Env := fun o S => (fi ρ S).bind (kt1 st o d ρ)
def ktc (r : Tgs) (ds : List D) : Env → Sto → R Env := fun ρ S => r ds ρ S
def klc (bn : Bn) (c : ExB) (f : Ex) (mk : List D → Sto → R D) (vs : List Nat) (ρ : Env) : Src → Sto → R D := fun s S => (noex (lcX s bn c f (wipeD ρ vs) (s.len S) 0 S [])).bind mk

@[simp] theorem a_cst (d : D) : cst d ρ S = .ok d S := id rfl
@[simp] theorem a_vrb (i : Nat) : vrb i ρ S = match ρ[i]? with
  | some (some d) => .ok d S
  | _ => .bad := id rfl
@[simp] theorem a_un1 (g f) : un1 g f ρ S = (f ρ S).bind g := id rfl
@[simp] theorem a_bi2 (g f f') : bi2 g f f' ρ S = (f ρ S).bind (kb g f' ρ) := id rfl
@[simp] theorem a_kb (g f a) : kb g f ρ a S = (f ρ S).bind (g a) := id rfl
@[simp] theorem a_unB (g : D → Sto → R Bool) (f) : unB g f ρ S = (f ρ S).bind g := id rfl
@[simp] theorem a_arN : arN ρ S = .ok [] S := id rfl
@[simp] theorem a_arC (f r) : arC f r ρ S = (f ρ S).bind (kc r ρ) := id rfl
@[simp] theorem a_kc (r a) : kc r ρ a S = (r ρ S).bind (kn a) := id rfl
@[simp] theorem a_kn (a as) : kn a as S = .ok (a :: as) S := id rfl
@[simp] theorem a_ofL (g f) : ofL g f ρ S = (f ρ S).bind g := id rfl
@[simp] theorem a_asB (b) : asB (.bl b) S = .ok b S := id rfl
@[simp] theorem a_ifE (c a b) : ifE c a b ρ S = (c ρ S).bind (ki a b ρ) := id rfl
@[simp] theorem a_ifS (c a b) : ifS c a b ρ S = (c ρ S).bind (ki a b ρ) := id rfl
@[simp] theorem a_kiT {α : Type} (a b : Env → Sto → R α) : ki a b ρ true S = a ρ S := id rfl
@[simp] theorem a_kiF {α : Type} (a b : Env → Sto → R α) : ki a b ρ false S = b ρ S := id rfl
@[simp] theorem a_andB (a b) : andB a b ρ S = (a ρ S).bind (kan b ρ) := id rfl
@[simp] theorem a_kanT (b) : kan b ρ true S = b ρ S := id rfl
@[simp] theorem a_kanF (b) : kan b ρ false S = .ok false S := id rfl
@[simp] theorem a_orB (a b) : orB a b ρ S = (a ρ S).bind (kor b ρ) := id rfl
@[simp] theorem a_korT (b) : kor b ρ true S = .ok true S := id rfl
@[simp] theorem a_korF (b) : kor b ρ false S = b ρ S := id rfl
@[simp] theorem a_notB (a) : notB a ρ S = (a ρ S).bind knt := id rfl
@[simp] theorem a_knt (t) : knt t S = .ok (!t) S := id rfl
@[simp] theorem a_andV (a b) : andV a b ρ S = (a ρ S).bind (kav b ρ) := id rfl
@[simp] theorem a_kavT (b) : kav b ρ (.bl true) S = b ρ S := id rfl
@[simp] theorem a_kavF (b) : kav b ρ (.bl false) S = .ok (.bl false) S := id rfl
@[simp] theorem a_notV (b) : notV (.bl b) S = .ok (.bl (!b)) S := id rfl
@[simp] theorem a_ret (f) : ret f ρ S = (f ρ S).bind kre := id rfl
@[simp] theorem a_kre (d) : kre d S = .ok (.rt d) S := id rfl
@[simp] theorem a_dro (f) : dro f ρ S = (f ρ S).bind (kdr ρ) := id rfl
@[simp] theorem a_kdr (d) : kdr ρ d S = .ok (.nx ρ) S := id rfl
@[simp] theorem a_skp : skp ρ S = .ok (.nx ρ) S := id rfl
@[simp] theorem a_sq (f g) : sq f g ρ S = (f ρ S).bind (fol g) := id rfl
@[simp] theorem a_folN (g) : fol g (.nx ρ) S = g ρ S := id rfl
@[simp] theorem a_folR (g d) : fol g (.rt d) S = .ok (.rt d) S := id rfl
@[simp] theorem a_asg (f b) : asg f b ρ S = (f ρ S).bind (kas b ρ) := id rfl
@[simp] theorem a_kasN (i d) : kas (bnN i) ρ d S = .ok (.nx (ρ.set i (some d))) S := id rfl
@[simp] theorem a_bnN (i d) : bnN i d ρ = some (ρ.set i (some d)) := id rfl
@[simp] theorem a_asT (f t) : asT f t ρ S = (f ρ S).bind (kat t ρ) := id rfl
@[simp] theorem a_kat (t d) : kat t ρ d S = (t d ρ S).bind knx := id rfl
@[simp] theorem a_knx : knx ρ S = .ok (.nx ρ) S := id rfl
@[simp] theorem a_tgN (i d) : tgN i d ρ S = .ok (ρ.set i (some d)) S := id rfl
@[simp] theorem a_tgsN : tgsN [] ρ S = .ok ρ S := id rfl
@[simp] theorem a_tgsC (b r d ds) : tgsC b r (d :: ds) ρ S = (b d ρ S).bind (ktc r ds) := id rfl
@[simp] theorem a_ktc (r ds) : ktc r ds ρ S = r ds ρ S := id rfl
@[simp] theorem a_tgT (n b ds) : tgT n b (.tup ds) ρ S = if ds.length = n then b ds ρ S else .bad := id rfl
@[simp] theorem a_tgS (fo fi d) : tgS fo fi d ρ S = (fo ρ S).bind (kt0 dSt fi d ρ) := id rfl
@[simp] theorem a_tgSN (fo fi d) : tgSN fo fi d ρ S = (fo ρ S).bind (kt0 dStN fi d ρ) := id rfl
@[simp] theorem a_kt0 (st fi d o) : kt0 st fi d ρ o S = (fi ρ S).bind (kt1 st o d ρ) := id rfl
@[simp] theorem a_kt1 (st o d i) : kt1 st o d ρ i S = (st o i d S).bind (kt2 o i d ρ) := id rfl
@[simp] theorem a_kt2 (o i d u) : kt2 o i d ρ u S = .ok ρ S := id rfl
@[simp] theorem a_opN : opN ρ S = .ok none S := id rfl
@[simp] theorem a_opS (f) : opS f ρ S = (f ρ S).bind kop := id rfl
@[simp] theorem a_kop (i) : kop (.int i) S = .ok (some i) S := id rfl
@[simp] theorem a_slE (f l u) : slE f l u ρ S = (f ρ S).bind (ks0 l u ρ) := id rfl
@[simp] theorem a_ks0 (l u a) : ks0 l u ρ a S = (l ρ S).bind (ks1 a u ρ) := id rfl
@[simp] theorem a_ks1 (u a lo) : ks1 a u ρ lo S = (u ρ S).bind (ks2 a lo) := id rfl
@[simp] theorem a_ks2 (a lo hi) : ks2 a lo hi S = dSl a lo hi S := id rfl
@[simp] theorem a_clP (n f fl) : clP n f fl ρ S = (fl ρ S).bind (kf n f) := id rfl
@[simp] theorem a_kf (n f ds) : kf n f ds S = if ds.length = n then f ds S else .bad := id rfl
@[simp] theorem a_clK (m n nk prm f fl fk) : clK m n nk prm f fl fk ρ S = (fl ρ S).bind (kk1 m n nk prm f fk ρ) := id rfl
@[simp] theorem a_kk1 (m n nk prm f fk ds) : kk1 m n nk prm f fk ρ ds S = (fk ρ S).bind (kk2 m n nk prm f ds) := id rfl
@[simp] theorem a_kk2 (m n nk prm f ds es) : kk2 m n nk prm f ds es S = if ds.length = n ∧ es.length = nk ∧ (prmOf prm ds es).length = m then f (prmOf prm ds es) S else .bad := id rfl
@[simp] theorem a_mthL (g fo fl) : mthL g fo fl ρ S = (fo ρ S).bind (km1 g fl ρ) := id rfl
theorem a_km1 {g fl o xs} (h : liOf S o = some xs) : km1 g fl ρ o S = (fl ρ S).bind (km2 g o) := by
  unfold km1
  rw [h]
@[simp] theorem a_km2 (g o as) : km2 g o as S = g o as S := id rfl
@[simp] theorem a_par2 (i j fl) : par2 i j fl ρ S = (fl ρ S).bind (kp2 i j ρ) := id rfl
@[simp] theorem a_kp2 (i j x y) : kp2 i j ρ [x, y] S = .ok (.nx ((ρ.set i (some x)).set j (some y))) S := id rfl
@[simp] theorem a_src1 (g : D → Sto → R Src) (f) : src1 g f ρ S = (f ρ S).bind g := id rfl
@[simp] theorem a_srcL (g : List D → Sto → R Src) (f) : srcL g f ρ S = (f ρ S).bind g := id rfl
@[simp] theorem a_forS (f bn body) : forS f bn body ρ S = (f ρ S).bind (kfo bn body ρ) := id rfl
theorem a_kfo (bn body s) : kfo bn body ρ s S = forX s bn body (s.len S) 0 ρ S := id rfl
theorem a_lcN (mk vs fs bn c f) : lcN mk vs fs bn c f ρ S = (fs ρ S).bind (klc bn c f mk vs ρ) := id rfl
@[simp] theorem a_newN : newN ρ S = .ok (.m S.length) (S ++ [.ndc [] []]) := id rfl
@[simp] theorem a_newD : newD ρ S = .ok (.dct [] []) S := id rfl
/-- the end of a body -/
def endR : R Fl → R D
  | .ok (.rt d) S1 => .ok d S1
  | .ok (.nx _) S1 => .ok .non S1
  | .ok _ _ => .bad
  | .ex c as S1 => .ex c as S1
  | .bad => .bad
@[simp] theorem endR_rt (d) : endR (.ok (.rt d) S) = .ok d S := id rfl
@[simp] theorem endR_nx (ρ) : endR (.ok (.nx ρ) S) = .ok .non S := id rfl
@[simp] theorem endR_ex (c as) : endR (.ex c as S) = .ex c as S := id rfl
theorem runF (n : Nat) (f : Sm) (ds : List D) (S : Sto) : runB n false f ds S = endR (f (ds.map some ++ List.replicate (n - ds.length) none) S) := by
  show (match f (ds.map some ++ List.replicate (n - ds.length) none) S with
    | .ok (.rt d) S1 => R.ok d S1
    | .ok (.nx _) S1 => .ok .non S1
    | .ok _ _ => .bad
    | .ex c as S1 => .ex c as S1
    | .bad => .bad) = _
  generalize f (ds.map some ++ List.replicate (n - ds.length) none) S = r
  cases r with
  | ok a S1 => cases a <;> rfl
  | ex _ _ _ => rfl
  | bad => rfl
theorem runT (n : Nat) (f : Sm) (ds : List D) (S : Sto) : runB n true f ds S = fzR S.length (endR (f (ds.map some ++ List.replicate (n - ds.length) none) S)) := by
  show fzR S.length (match f (ds.map some ++ List.replicate (n - ds.length) none) S with
    | .ok (.rt d) S1 => R.ok d S1
    | .ok (.nx _) S1 => .ok .non S1
    | .ok _ _ => .bad
    | .ex c as S1 => .ex c as S1
    | .bad => .bad) = _
  generalize f (ds.map some ++ List.replicate (n - ds.length) none) S = r
  cases r with
  | ok a S1 => cases a <;> rfl
  | ex _ _ _ => rfl
  | bad => rfl
end
end Ev
namespace Ev
open L2 PySem PySem.Spec PyProof.Rows
theorem asB_bl (b : Bool) (S : Sto) : asB (.bl b) S = .ok b S := rfl
/-! ## loops, with what stays true -/
/-- the source's items, in every state that P allows -/
def Its (s : Src) (P : Sto → Prop) (xs : List D) : Prop := ∀ S, P S → ∀ i, s.at S i = some (xs[i]?)
theorem lcX_inv {s : Src} {P : Sto → Prop} {xs : List D} {bn : Bn} {c : ExB} {f : Ex} {ρ : Env} (hs : Its s P xs) (inv : Nat → Sto → List D → Prop) (hP : ∀ i S acc, inv i S acc → P S) (hl : ∀ i S acc, inv i S acc → acc.length ≤ i) (hz : xs.length ≤ 16777216)
    (step : ∀ i x S acc, xs[i]? = some x → inv i S acc → ∃ ρ1 t S1, bn x ρ = some ρ1 ∧ c ρ1 S = .ok t S1 ∧ if t = true then ∃ y S2, f ρ1 S1 = .ok y S2 ∧ inv (i + 1) S2 (acc ++ [y]) else inv (i + 1) S1 acc) :
    ∀ (n i : Nat) (S : Sto) (acc : List D), i ≤ xs.length → xs.length < i + n → inv i S acc → ∃ S' acc', lcX s bn c f ρ n i S acc = .ok acc' S' ∧ inv xs.length S' acc'
  | 0, i, S, acc, h1, h2, h => absurd h2 (by omega)
  | n + 1, i, S, acc, h1, h2, h => by
    have e := hs S (hP i S acc h) i
    by_cases hi : i < xs.length
    · rw [List.getElem?_eq_getElem hi] at e
      obtain ⟨ρ1, t, S1, e1, e2, e3⟩ := step i xs[i] S acc (List.getElem?_eq_getElem hi) h
      have ha : acc.length < 16777216 := Nat.lt_of_le_of_lt (hl i S acc h) (Nat.lt_of_lt_of_le hi hz)
      by_cases ht : t = true
      · rw [if_pos ht] at e3
        obtain ⟨y, S2, e4, e5⟩ := e3
        obtain ⟨S', acc', g1, g2⟩ := lcX_inv hs inv hP hl hz step n (i + 1) S2 (acc ++ [y]) hi (by omega) e5
        refine ⟨S', acc', ?_, g2⟩
        unfold lcX
        rw [e]
        simp only [e1, e2, R.bind_ok, if_pos ht, e4, if_pos ha, g1]
      · rw [if_neg ht] at e3
        obtain ⟨S', acc', g1, g2⟩ := lcX_inv hs inv hP hl hz step n (i + 1) S1 acc hi (by omega) e3
        refine ⟨S', acc', ?_, g2⟩
        unfold lcX
        rw [e]
        simp only [e1, e2, R.bind_ok, if_neg ht, g1]
    · have e0 : i = xs.length := by omega
      subst e0
      rw [List.getElem?_eq_none (Nat.le_refl _)] at e
      refine ⟨S, acc, ?_, h⟩
      unfold lcX
      rw [e]
theorem forX_inv {s : Src} {P : Sto → Prop} {xs : List D} {bn : Bn} {body : Sm} (hs : Its s P xs) (inv : Nat → Env → Sto → Prop) (out : D → Sto → Prop) (hP : ∀ i ρ S, inv i ρ S → P S)
    (step : ∀ i x ρ S, xs[i]? = some x → inv i ρ S → ∃ ρ1, bn x ρ = some ρ1 ∧ ((∃ ρ2 S2, body ρ1 S = .ok (.nx ρ2) S2 ∧ inv (i + 1) ρ2 S2) ∨ ∃ d S2, body ρ1 S = .ok (.rt d) S2 ∧ out d S2)) :
    ∀ (n i : Nat) (ρ : Env) (S : Sto), i ≤ xs.length → xs.length < i + n → inv i ρ S → (∃ ρ' S', forX s bn body n i ρ S = .ok (.nx ρ') S' ∧ inv xs.length ρ' S') ∨ ∃ d S', forX s bn body n i ρ S = .ok (.rt d) S' ∧ out d S'
  | 0, i, ρ, S, h1, h2, h => absurd h2 (by omega)
  | n + 1, i, ρ, S, h1, h2, h => by
    have e := hs S (hP i ρ S h) i
    by_cases hi : i < xs.length
    · rw [List.getElem?_eq_getElem hi] at e
      obtain ⟨ρ1, e1, e2 | e2⟩ := step i xs[i] ρ S (List.getElem?_eq_getElem hi) h
      · obtain ⟨ρ2, S2, e3, e4⟩ := e2
        rcases forX_inv hs inv out hP step n (i + 1) ρ2 S2 hi (by omega) e4 with ⟨ρ', S', g1, g2⟩ | ⟨d, S', g1, g2⟩
        · refine .inl ⟨ρ', S', ?_, g2⟩
          unfold forX
          rw [e]
          simp only [e1, e3, R.bind_ok, g1]
        · refine .inr ⟨d, S', ?_, g2⟩
          unfold forX
          rw [e]
          simp only [e1, e3, R.bind_ok, g1]
      · obtain ⟨d, S2, e3, e4⟩ := e2
        refine .inr ⟨d, S2, ?_, e4⟩
        unfold forX
        rw [e]
        simp only [e1, e3, R.bind_ok]
    · have e0 : i = xs.length := by omega
      subst e0
      rw [List.getElem?_eq_none (Nat.le_refl _)] at e
      refine .inl ⟨ρ, S, ?_, h⟩
      unfold forX
      rw [e]
/-- a comprehension whose parts change nothing -/
theorem lcX_pure {s : Src} {xs : List D} {bn : Bn} {c : ExB} {f : Ex} {ρ : Env} {S : Sto} (hs : ∀ i, s.at S i = some (xs[i]?)) (hz : xs.length ≤ 16777216) (tb : D → Bool) (fb : D → D)
    (step : ∀ x, x ∈ xs → ∃ ρ1, bn x ρ = some ρ1 ∧ c ρ1 S = .ok (tb x) S ∧ (tb x = true → f ρ1 S = .ok (fb x) S)) (n : Nat) (hn : xs.length < n) : lcX s bn c f ρ n 0 S [] = .ok ((xs.filter tb).map fb) S := by
  obtain ⟨S', acc', e, h1, h2, h3⟩ := lcX_inv (s := s) (P := fun S' => S' = S) (xs := xs) (bn := bn) (c := c) (f := f) (ρ := ρ) (fun S' e i => by rw [e]; exact hs i) (fun i S' acc => S' = S ∧ acc = ((xs.take i).filter tb).map fb ∧ acc.length ≤ i) (fun _ _ _ h => h.1) (fun _ _ _ h => h.2.2) hz (fun i x S' acc hx h => by
    obtain ⟨rfl, rfl, h3⟩ := h
    obtain ⟨ρ1, e1, e2, e3⟩ := step x (List.mem_of_getElem? hx)
    have tk : xs.take (i + 1) = xs.take i ++ [x] := by
      rw [List.take_add_one, hx]
      rfl
    refine ⟨ρ1, tb x, S', e1, e2, ?_⟩
    by_cases ht : tb x = true
    · rw [if_pos ht]
      refine ⟨fb x, S', e3 ht, rfl, ?_, ?_⟩
      · rw [tk, List.filter_append, List.map_append, List.filter_cons_of_pos ht]
        rfl
      · rw [List.length_append]
        exact Nat.add_le_add_right h3 1
    · rw [if_neg ht]
      refine ⟨rfl, ?_, Nat.le_succ_of_le h3⟩
      rw [tk, List.filter_append, List.filter_cons_of_neg ht]
      simp) n 0 S [] (Nat.zero_le _) (by omega) ⟨rfl, rfl, Nat.le_refl _⟩
  rw [e, h1, h2, List.take_length]
end Ev
namespace K08
open PySem PySem.Spec PyProof.Rows L2 Ev
/-! ## the plain law: single functions on trees -/
/-- a tree's type name; none: no tree -/
def isIntD : D → Bool
  | .int _ => true
  | .bl _ => true
  | _ => false
def isBlD : D → Bool
  | .bl _ => true
  | _ => false
/-- what is_number answers -/
def numB : D → Bool
  | .int i => decide (0 ≤ i)
  | _ => false
/-- trees without cells, tables, classes -/
inductive Kd : D → Prop
  | non : Kd .non
  | bl (b) : Kd (.bl b)
  | int (i) : Kd (.int i)
  | str (x) : Kd (.str x)
  | lst (xs) : Kd (.lst xs)
  | tup (xs) : Kd (.tup xs)
  | dct (a b) : Kd (.dct a b)
theorem is_integer_ok (k : Nat) {d : D} (h : Kd d) (S : Sto) : sem MM (k + 1) 0 [d] S = .ok (.bl (isIntD d && !isBlD d)) S := by
  rw [s0]
  cases h <;> rfl
theorem is_number_ok (k : Nat) {d : D} (h : Kd d) (S : Sto) : sem MM (k + 2) 1 [d] S = .ok (.bl (numB d)) S := by
  rw [s1]
  have e := is_integer_ok k h S
  cases h <;> simp [runB, Ev.ret, sq, fol, ifS, asg, asT, dro, skp, forS, bnN, bnT, bnsC, bnsN, tgN, tgT, tgsC, tgsN, tgS, par2, par3, andV, orV, notV, andB, orB, notB, unB, asB_bl, ifE, clP, clK, arC, arN, vrb, cst, bi2, un1, ofL, lcN, src1, srcL, yes, slE, opN, opS, mthL, R.bind_ok, R.bind_ex, R.bind_bad, g1, e, dCo, dCmp, isIntD, isBlD, numB]
theorem g_is_int_ok (k : Nat) {d : D} (h : Kd d) (S : Sto) : sem MM (k + 1) 21 [d] S = .ok (.bl (numB d)) S := by
  rw [s21]
  cases h <;> first | rfl | skip
/-! ### names -/
def chD (c : Nat) : D := .str ⟨#[c]⟩
def loS : Str := "abcdefghijklmnopqrstuvwxyz"
def laS : Str := "abcdefghijklmnopqrstuvwxyz0123456789"
def nameS (z : Str) : Bool := decide (0 < z.length ∧ z.length < 9) && (match z.cps.toList with
  | c :: _ => inStr ⟨#[c]⟩ loS && z.cps.toList.all fun c => inStr ⟨#[c]⟩ laS
  | [] => false)
def nameB : D → Bool
  | .str z => nameS z
  | _ => false
theorem txt_its (z : Str) (S : Sto) (i : Nat) : (Src.txt z).at S i = some ((z.cps.toList.map chD)[i]?) := by
  show some ((z.cps[i]?).map fun c => D.str ⟨#[c]⟩) = _
  rw [List.getElem?_map, Array.getElem?_toList]
  rfl
theorem bls_map {α : Type} (p : α → Bool) : ∀ xs : List α, blsOf (xs.map fun x => D.bl (p x)) = some (xs.map p)
  | [] => rfl
  | x :: xs => by
    show (blsOf (xs.map fun x => D.bl (p x))).map (fun bs => p x :: bs) = _
    rw [bls_map p xs]
    rfl
/-- all([.. for sign in z]) -/
theorem all_txt (z : Str) (hz : z.length ≤ 16777216) (i : Nat) (ρ : Ev.Env) (S : Sto) (fe f : Ex) (he : fe ρ S = .ok (.str z) S) (p : Nat → Bool) (hf : ∀ c, f ((wipeD ρ [i]).set i (some (chD c))) S = .ok (.bl (p c)) S) :
    ofL dAll (arC (lcN mkL [i] (src1 srSq fe) (bnN i) yes f) arN) ρ S = .ok (.bl (z.cps.toList.all p)) S := by
  have hl : (z.cps.toList.map chD).length = z.cps.size := by simp
  have e := lcX_pure (s := .txt z) (xs := z.cps.toList.map chD) (bn := bnN i) (c := yes) (f := f) (ρ := wipeD ρ [i]) (S := S) (txt_its z S) (by rw [hl]; exact hz) (fun _ => true) (fun d => match d with | .str y => .bl (p (y.cps.getD 0 0)) | _ => .non) (fun x hx => by
    obtain ⟨c, _, rfl⟩ := List.mem_map.mp hx
    exact ⟨_, rfl, rfl, fun _ => hf c⟩) (z.cps.size + 1) (by rw [hl]; exact Nat.lt_succ_self _)
  have e2 : (((z.cps.toList.map chD).filter fun _ => true).map fun d => match d with | .str y => D.bl (p (y.cps.getD 0 0)) | _ => .non) = z.cps.toList.map fun c => D.bl (p c) := by
    rw [List.filter_eq_self.mpr (fun _ _ => rfl), List.map_map]
    rfl
  rw [e2] at e
  have hl2 : ((z.cps.toList.map fun c => D.bl (p c)).length ≤ 16777216) := by
    rw [List.length_map]
    exact hz
  show ((lcN mkL [i] (src1 srSq fe) (bnN i) yes f ρ S).bind fun a S1 => (arN ρ S1).bind fun as S2 => .ok (a :: as) S2).bind dAll = _
  have e3 : lcN mkL [i] (src1 srSq fe) (bnN i) yes f ρ S = .ok (.lst (z.cps.toList.map fun c => D.bl (p c))) S := by
    show (((fe ρ S).bind srSq).bind fun s S1 => (noex (lcX s (bnN i) yes f (wipeD ρ [i]) (s.len S1) 0 S1 [])).bind mkL) = _
    rw [he]
    show (noex (lcX (.txt z) (bnN i) yes f (wipeD ρ [i]) (z.cps.size + 1) 0 S [])).bind mkL = _
    rw [e]
    show mkL _ S = _
    unfold mkL
    rw [if_pos hl2]
  rw [e3]
  show dAll [.lst (z.cps.toList.map fun c => D.bl (p c))] S = _
  show (match (blsOf (z.cps.toList.map fun c => D.bl (p c))) with | some bs => R.ok (D.bl (bs.all id)) S | none => R.bad) = _
  rw [bls_map]
  simp
theorem chain_len (z : Str) (hz : z.length ≤ 16777216) (ρ : Ev.Env) (S : Sto) (h : ρ[0]? = some (some (.str z))) :
    chn .Lt .Lt (cst (.int 0)) (ofL dLen (arC (vrb 0) arN)) (cst (.int 9)) ρ S = .ok (.bl (decide (0 < z.length ∧ z.length < 9))) S := by
  simp only [chn, runB, Ev.ret, sq, fol, ifS, asg, asT, dro, skp, forS, bnN, bnT, bnsC, bnsN, tgN, tgT, tgsC, tgsN, tgS, par2, par3, andV, orV, notV, andB, orB, notB, unB, asB_bl, ifE, clP, clK, arC, arN, vrb, cst, bi2, un1, ofL, lcN, src1, srcL, yes, slE, opN, opS, mthL, R.bind_ok, R.bind_ex, R.bind_bad, dCo, dCmp, h, dLen, if_pos hz]
  by_cases h1 : 0 < z.length
  · simp [h1]
    omega
  · simp [h1]
theorem ix0 (z : Str) (hz : z.length ≤ 16777216) (ρ : Ev.Env) (S : Sto) (h : ρ[0]? = some (some (.str z))) (c : Nat) (r : List Nat) (hc : z.cps.toList = c :: r) : bi2 dIx (vrb 0) (cst (.int 0)) ρ S = .ok (chD c) S := by
  simp only [runB, Ev.ret, sq, fol, ifS, asg, asT, dro, skp, forS, bnN, bnT, bnsC, bnsN, tgN, tgT, tgsC, tgsN, tgS, par2, par3, andV, orV, notV, andB, orB, notB, unB, asB_bl, ifE, clP, clK, arC, arN, vrb, cst, bi2, un1, ofL, lcN, src1, srcL, yes, slE, opN, opS, mthL, R.bind_ok, R.bind_ex, R.bind_bad, h, dIx, dctOf, hc, atI, ixN, if_pos hz]
  simp [chD]
theorem is_name_ok (k : Nat) {d : D} (h : Kd d) (hz : ∀ z, d = .str z → z.length ≤ 16777216) (S : Sto) : sem MM (k + 1) 3 [d] S = .ok (.bl (nameB d)) S := by
  rw [s3]
  cases h with
  | str z =>
    have hz := hz z rfl
    have e1 := chain_len z hz [some (.str z), none] S rfl
    have e2 := all_txt z hz 1 [some (.str z), none] S (vrb 0) (bi2 (dCo .In) (vrb 1) (cst (.str laS))) rfl (fun c => inStr ⟨#[c]⟩ laS) (fun c => rfl)
    show runB 2 false (sq (ifS (orB (notB (unB asB (ofL dIsi (arC (vrb 0) (arC (cst (.ty "str")) arN))))) (notB (unB asB (chn .Lt .Lt (cst (.int 0)) (ofL dLen (arC (vrb 0) arN)) (cst (.int 9)))))) (ret (cst (.bl false))) skp)
      (ret (andV (bi2 (dCo .In) (bi2 dIx (vrb 0) (cst (.int 0))) (cst (.str loS))) (ofL dAll (arC (lcN mkL [1] (src1 srSq (vrb 0)) (bnN 1) yes (bi2 (dCo .In) (vrb 1) (cst (.str laS)))) arN))))) [.str z] S = _
    have hi : ofL dIsi (arC (vrb 0) (arC (cst (.ty "str")) arN)) [some (.str z), none] S = .ok (.bl true) S := rfl
    show (match (sq _ _) [some (.str z), none] S with | .ok (.rt d) S1 => R.ok d S1 | .ok (.nx _) S1 => R.ok .non S1 | .ok _ _ => R.bad | .ex c as S1 => R.ex c as S1 | .bad => R.bad) = _
    generalize ofL dAll (arC (lcN mkL [1] (src1 srSq (vrb 0)) (bnN 1) yes (bi2 (dCo .In) (vrb 1) (cst (.str laS)))) arN) = fa at e2 ⊢
    generalize chn .Lt .Lt (cst (.int 0)) (ofL dLen (arC (vrb 0) arN)) (cst (.int 9)) = fc at e1 ⊢
    by_cases hl : 0 < z.length ∧ z.length < 9
    · obtain ⟨c, r, hc⟩ : ∃ c r, z.cps.toList = c :: r := by
        cases q : z.cps.toList with
        | nil =>
          have : z.cps.size = 0 := by rw [← Array.length_toList, q]; rfl
          have h0 : 0 < z.cps.size := hl.1
          omega
        | cons c r => exact ⟨c, r, rfl⟩
      have e3 := ix0 z hz [some (.str z), none] S rfl c r hc
      generalize bi2 dIx (vrb 0) (cst (.int 0)) = fx at e3 ⊢
      have en : nameB (.str z) = (inStr ⟨#[c]⟩ loS && z.cps.toList.all fun c => inStr ⟨#[c]⟩ laS) := by
        show nameS z = _
        unfold nameS
        rw [decide_eq_true hl, hc]
        rfl
      rw [en]
      have hl2 : decide (0 < z.length ∧ z.length < 9) = true := decide_eq_true hl
      rw [hl2] at e1
      have e4 : bi2 (dCo .In) fx (cst (.str loS)) [some (.str z), none] S = .ok (.bl (inStr ⟨#[c]⟩ loS)) S := by
        simp only [bi2, e3, R.bind_ok, cst]
        rfl
      generalize bi2 (dCo .In) fx (cst (.str loS)) = fi at e4 ⊢
      cases hb : inStr ⟨#[c]⟩ loS with
      | true => simp [runB, Ev.ret, sq, fol, ifS, asg, asT, dro, skp, forS, bnN, bnT, bnsC, bnsN, tgN, tgT, tgsC, tgsN, tgS, par2, par3, andV, orV, notV, andB, orB, notB, unB, asB_bl, ifE, clP, clK, arC, arN, vrb, cst, bi2, un1, ofL, lcN, src1, srcL, yes, slE, opN, opS, mthL, R.bind_ok, R.bind_ex, R.bind_bad, e1, e2, e4, hi, hb, dIsi, tyOf, isKind, basic]
      | false => simp [runB, Ev.ret, sq, fol, ifS, asg, asT, dro, skp, forS, bnN, bnT, bnsC, bnsN, tgN, tgT, tgsC, tgsN, tgS, par2, par3, andV, orV, notV, andB, orB, notB, unB, asB_bl, ifE, clP, clK, arC, arN, vrb, cst, bi2, un1, ofL, lcN, src1, srcL, yes, slE, opN, opS, mthL, R.bind_ok, R.bind_ex, R.bind_bad, e1, e2, e4, hi, hb, dIsi, tyOf, isKind, basic]
    · have en : nameB (.str z) = false := by
        show nameS z = _
        unfold nameS
        rw [decide_eq_false hl]
        rfl
      have hl2 : decide (0 < z.length ∧ z.length < 9) = false := decide_eq_false hl
      rw [hl2] at e1
      rw [en]
      simp [runB, Ev.ret, sq, fol, ifS, asg, asT, dro, skp, forS, bnN, bnT, bnsC, bnsN, tgN, tgT, tgsC, tgsN, tgS, par2, par3, andV, orV, notV, andB, orB, notB, unB, asB_bl, ifE, clP, clK, arC, arN, vrb, cst, bi2, un1, ofL, lcN, src1, srcL, yes, slE, opN, opS, mthL, R.bind_ok, R.bind_ex, R.bind_bad, e1, hi, dIsi, tyOf, isKind, basic]
  | _ => rfl
theorem g_is_name_ok (k : Nat) {d : D} (h : Kd d) (hz : ∀ z, d = .str z → z.length ≤ 16777216) (S : Sto) : sem MM (k + 1) 22 [d] S = .ok (.bl (nameB d)) S := by
  rw [s22]
  cases h with
  | str z =>
    have hz := hz z rfl
    have e1 := chain_len z hz [some (.str z), none] S rfl
    have e2 := all_txt z hz 1 [some (.str z), none] S (vrb 0) (bi2 (dCo .In) (vrb 1) (cst (.str laS))) rfl (fun c => inStr ⟨#[c]⟩ laS) (fun c => rfl)
    show runB 2 false (sq (ifS (orB (notB (unB asB (ofL dIsi (arC (vrb 0) (arC (cst (.ty "str")) arN))))) (orB (notB (unB asB (chn .Lt .Lt (cst (.int 0)) (ofL dLen (arC (vrb 0) arN)) (cst (.int 9))))) (unB asB (bi2 (dCo .NotIn) (bi2 dIx (vrb 0) (cst (.int 0))) (cst (.str loS)))))) (ret (cst (.bl false))) skp)
      (ret (ofL dAll (arC (lcN mkL [1] (src1 srSq (vrb 0)) (bnN 1) yes (bi2 (dCo .In) (vrb 1) (cst (.str laS)))) arN)))) [.str z] S = _
    have hi : ofL dIsi (arC (vrb 0) (arC (cst (.ty "str")) arN)) [some (.str z), none] S = .ok (.bl true) S := rfl
    show (match (sq _ _) [some (.str z), none] S with | .ok (.rt d) S1 => R.ok d S1 | .ok (.nx _) S1 => R.ok .non S1 | .ok _ _ => R.bad | .ex c as S1 => R.ex c as S1 | .bad => R.bad) = _
    generalize ofL dAll (arC (lcN mkL [1] (src1 srSq (vrb 0)) (bnN 1) yes (bi2 (dCo .In) (vrb 1) (cst (.str laS)))) arN) = fa at e2 ⊢
    generalize chn .Lt .Lt (cst (.int 0)) (ofL dLen (arC (vrb 0) arN)) (cst (.int 9)) = fc at e1 ⊢
    generalize ofL dIsi (arC (vrb 0) (arC (cst (.ty "str")) arN)) = fq at hi ⊢
    by_cases hl : 0 < z.length ∧ z.length < 9
    · obtain ⟨c, r, hc⟩ : ∃ c r, z.cps.toList = c :: r := by
        cases q : z.cps.toList with
        | nil =>
          have : z.cps.size = 0 := by rw [← Array.length_toList, q]; rfl
          have h0 : 0 < z.cps.size := hl.1
          omega
        | cons c r => exact ⟨c, r, rfl⟩
      have e3 := ix0 z hz [some (.str z), none] S rfl c r hc
      generalize bi2 dIx (vrb 0) (cst (.int 0)) = fx at e3 ⊢
      have en : nameB (.str z) = (inStr ⟨#[c]⟩ loS && z.cps.toList.all fun c => inStr ⟨#[c]⟩ laS) := by
        show nameS z = _
        unfold nameS
        rw [decide_eq_true hl, hc]
        rfl
      rw [en]
      have hl2 : decide (0 < z.length ∧ z.length < 9) = true := decide_eq_true hl
      rw [hl2] at e1
      have e4 : bi2 (dCo .NotIn) fx (cst (.str loS)) [some (.str z), none] S = .ok (.bl (!inStr ⟨#[c]⟩ loS)) S := by
        simp only [bi2, e3, R.bind_ok, cst]
        rfl
      generalize bi2 (dCo .NotIn) fx (cst (.str loS)) = fi at e4 ⊢
      cases hb : inStr ⟨#[c]⟩ loS with
      | true =>
        rw [hb] at e4
        simp [runB, Ev.ret, sq, fol, ifS, asg, asT, dro, skp, forS, bnN, bnT, bnsC, bnsN, tgN, tgT, tgsC, tgsN, tgS, par2, par3, andV, orV, notV, andB, orB, notB, unB, asB_bl, ifE, clP, clK, arC, arN, vrb, cst, bi2, un1, ofL, lcN, src1, srcL, yes, slE, opN, opS, mthL, R.bind_ok, R.bind_ex, R.bind_bad, e1, e2, e4, hi]
      | false =>
        rw [hb] at e4
        simp [runB, Ev.ret, sq, fol, ifS, asg, asT, dro, skp, forS, bnN, bnT, bnsC, bnsN, tgN, tgT, tgsC, tgsN, tgS, par2, par3, andV, orV, notV, andB, orB, notB, unB, asB_bl, ifE, clP, clK, arC, arN, vrb, cst, bi2, un1, ofL, lcN, src1, srcL, yes, slE, opN, opS, mthL, R.bind_ok, R.bind_ex, R.bind_bad, e1, e2, e4, hi]
    · have en : nameB (.str z) = false := by
        show nameS z = _
        unfold nameS
        rw [decide_eq_false hl]
        rfl
      have hl2 : decide (0 < z.length ∧ z.length < 9) = false := decide_eq_false hl
      rw [hl2] at e1
      rw [en]
      simp [runB, Ev.ret, sq, fol, ifS, asg, asT, dro, skp, forS, bnN, bnT, bnsC, bnsN, tgN, tgT, tgsC, tgsN, tgS, par2, par3, andV, orV, notV, andB, orB, notB, unB, asB_bl, ifE, clP, clK, arC, arN, vrb, cst, bi2, un1, ofL, lcN, src1, srcL, yes, slE, opN, opS, mthL, R.bind_ok, R.bind_ex, R.bind_bad, e1, hi]
  | _ => rfl
/-! ### all([f(one) for one in xs]) -/
theorem seq_its {d : D} {xs : List D} {S : Sto} (h : rdOf S d = some xs) (i : Nat) : (Src.seq d).at S i = some (xs[i]?) := by
  show (rdOf S d).map (fun xs => xs[i]?) = _
  rw [h]
  rfl
theorem src_seq {d : D} {xs : List D} {S : Sto} (h : rdOf S d = some xs) : srSq d S = .ok (.seq d) S := by
  unfold srSq
  cases d with
  | str z => cases h
  | _ => simp only [h]
theorem lc_pure {d : D} {xs : List D} {i : Nat} {ρ : Ev.Env} {S : Sto} {fe f : Ex} (he : fe ρ S = .ok d S) (h : rdOf S d = some xs) (hz : xs.length ≤ 16777216) (fb : D → D) (hf : ∀ x, x ∈ xs → f ((wipeD ρ [i]).set i (some x)) S = .ok (fb x) S) :
    lcN mkL [i] (src1 srSq fe) (bnN i) yes f ρ S = .ok (.lst (xs.map fb)) S := by
  have e := lcX_pure (s := .seq d) (xs := xs) (bn := bnN i) (c := yes) (f := f) (ρ := wipeD ρ [i]) (S := S) (seq_its h) hz (fun _ => true) fb (fun x hx => ⟨_, rfl, rfl, fun _ => hf x hx⟩) (xs.length + 1) (Nat.lt_succ_self _)
  show (((fe ρ S).bind srSq).bind fun s S1 => (noex (lcX s (bnN i) yes f (wipeD ρ [i]) (s.len S1) 0 S1 [])).bind mkL) = _
  rw [he, R.bind_ok, src_seq h, R.bind_ok]
  show (noex (lcX (.seq d) (bnN i) yes f (wipeD ρ [i]) (((rdOf S d).getD []).length + 1) 0 S [])).bind mkL = _
  rw [h]
  show (noex (lcX (.seq d) (bnN i) yes f (wipeD ρ [i]) (xs.length + 1) 0 S [])).bind mkL = _
  rw [e, List.filter_eq_self.mpr (fun _ _ => rfl)]
  show mkL _ S = _
  unfold mkL
  rw [if_pos (by rw [List.length_map]; exact hz)]
theorem all_pure {d : D} {xs : List D} {i : Nat} {ρ : Ev.Env} {S : Sto} {fe f : Ex} (he : fe ρ S = .ok d S) (h : rdOf S d = some xs) (hz : xs.length ≤ 16777216) (p : D → Bool) (hf : ∀ x, x ∈ xs → f ((wipeD ρ [i]).set i (some x)) S = .ok (.bl (p x)) S) :
    ofL dAll (arC (lcN mkL [i] (src1 srSq fe) (bnN i) yes f) arN) ρ S = .ok (.bl (xs.all p)) S := by
  have e := lc_pure he h hz (fun x => .bl (p x)) hf
  show ((lcN mkL [i] (src1 srSq fe) (bnN i) yes f ρ S).bind fun a S1 => (arN ρ S1).bind fun as S2 => .ok (a :: as) S2).bind dAll = _
  rw [e]
  show (match (blsOf (xs.map fun x => D.bl (p x))) with | some bs => R.ok (D.bl (bs.all id)) S | none => R.bad) = _
  rw [bls_map]
  simp
theorem any_pure {d : D} {xs : List D} {i : Nat} {ρ : Ev.Env} {S : Sto} {fe f : Ex} (he : fe ρ S = .ok d S) (h : rdOf S d = some xs) (hz : xs.length ≤ 16777216) (p : D → Bool) (hf : ∀ x, x ∈ xs → f ((wipeD ρ [i]).set i (some x)) S = .ok (.bl (p x)) S) :
    ofL dAny (arC (lcN mkL [i] (src1 srSq fe) (bnN i) yes f) arN) ρ S = .ok (.bl (xs.any p)) S := by
  have e := lc_pure he h hz (fun x => .bl (p x)) hf
  show ((lcN mkL [i] (src1 srSq fe) (bnN i) yes f ρ S).bind fun a S1 => (arN ρ S1).bind fun as S2 => .ok (a :: as) S2).bind dAny = _
  rw [e]
  show (match (blsOf (xs.map fun x => D.bl (p x))) with | some bs => R.ok (D.bl (bs.any id)) S | none => R.bad) = _
  rw [bls_map]
  simp
end K08
namespace K08
open PySem PySem.Spec PyProof.Rows L2 Ev
/-! ## trees that the law draws -/
def dcB : List D → List D → Bool
  | [], [] => true
  | [.str k], [.int i] => PyData.strOk k && decide (i.natAbs < 10 ^ 20)
  | _, _ => false
def dcW : List D → List D → Nat
  | [.str k], _ => k.length + 8
  | _, _ => 2
mutual
def trB : D → Bool
  | .non => true
  | .bl _ => true
  | .int i => decide (i.natAbs < 10 ^ 20)
  | .str z => PyData.strOk z
  | .lst xs => trBs xs
  | .tup xs => trBs xs
  | .dct ks vs => dcB ks vs
  | _ => false
def trBs : List D → Bool
  | [] => true
  | d :: ds => trB d && trBs ds
def wt : D → Nat
  | .str z => z.length + 1
  | .lst xs => wts xs + 1
  | .tup xs => wts xs + 1
  | .dct ks vs => dcW ks vs
  | _ => 1
def wts : List D → Nat
  | [] => 0
  | d :: ds => wt d + wts ds
end
mutual
def dpt : D → Nat
  | .lst xs => dpts xs + 1
  | .tup xs => dpts xs + 1
  | .dct _ _ => 4
  | _ => 1
def dpts : List D → Nat
  | [] => 0
  | x :: xs => max (dpt x) (dpts xs)
end
theorem dpt_pos : ∀ d : D, 1 ≤ dpt d
  | .lst xs => Nat.le_add_left 1 _
  | .tup xs => Nat.le_add_left 1 _
  | .dct ks vs => (by decide : 1 ≤ 4)
  | .non | .bl _ | .int _ | .str _ | .frz _ | .m _ | .fn _ | .cl _ | .ty _ => Nat.le_refl 1
theorem dpts_mem : ∀ {xs : List D} {x : D}, x ∈ xs → dpt x ≤ dpts xs
  | y :: ys, x, h => by
    show dpt x ≤ max (dpt y) (dpts ys)
    rcases List.mem_cons.mp h with rfl | h
    · omega
    · have := dpts_mem h
      omega
structure Tr (d : D) : Prop where
  sh : trB d = true
  le : wt d ≤ 4096
theorem wt_pos : ∀ d : D, 1 ≤ wt d
  | .str z => Nat.le_add_left 1 _
  | .lst xs => Nat.le_add_left 1 _
  | .tup xs => Nat.le_add_left 1 _
  | .dct ks vs => by
    show 1 ≤ dcW ks vs
    unfold dcW
    split <;> omega
  | .non | .bl _ | .int _ | .frz _ | .m _ | .fn _ | .cl _ | .ty _ => Nat.le_refl 1
theorem wts_len : ∀ xs : List D, xs.length ≤ wts xs
  | [] => Nat.le_refl 0
  | x :: xs => by
    have := wts_len xs
    have := wt_pos x
    show xs.length + 1 ≤ wt x + wts xs
    omega
theorem wts_mem : ∀ {xs : List D} {x : D}, x ∈ xs → wt x ≤ wts xs
  | y :: ys, x, h => by
    show wt x ≤ wt y + wts ys
    rcases List.mem_cons.mp h with rfl | h
    · omega
    · have := wts_mem h
      omega
theorem wts_app : ∀ (xs ys : List D), wts (xs ++ ys) = wts xs + wts ys
  | [], ys => by simp [wts]
  | x :: xs, ys => by
    have := wts_app xs ys
    simp only [List.cons_append, wts, this]
    omega
theorem trBs_app : ∀ (xs ys : List D), trBs (xs ++ ys) = (trBs xs && trBs ys)
  | [], ys => by simp [trBs]
  | x :: xs, ys => by
    have := trBs_app xs ys
    simp only [List.cons_append, trBs, this, Bool.and_assoc]
theorem trBs_mem : ∀ {xs : List D}, trBs xs = true ↔ ∀ x, x ∈ xs → trB x = true
  | [] => by simp [trBs]
  | y :: ys => by
    have := trBs_mem (xs := ys)
    simp [trBs, this]
structure Trs (xs : List D) : Prop where
  sh : trBs xs = true
  le : wts xs ≤ 4096
theorem Trs.mem {xs : List D} (h : Trs xs) {x : D} (hx : x ∈ xs) : Tr x := ⟨trBs_mem.mp h.sh x hx, Nat.le_trans (wts_mem hx) h.le⟩
theorem Trs.len {xs : List D} (h : Trs xs) : xs.length ≤ 4096 := Nat.le_trans (wts_len xs) h.le
theorem Tr.lst {xs : List D} (h : Tr (.lst xs)) : Trs xs := ⟨h.sh, Nat.le_of_succ_le h.le⟩
theorem Tr.tup {xs : List D} (h : Tr (.tup xs)) : Trs xs := ⟨h.sh, Nat.le_of_succ_le h.le⟩
theorem Tr.kd {d : D} (h : Tr d) : Kd d := by
  cases d with
  | frz _ => cases h.sh
  | m _ => cases h.sh
  | fn _ => cases h.sh
  | cl _ => cases h.sh
  | ty _ => cases h.sh
  | _ => constructor
theorem Tr.slen {z : Str} (h : Tr (.str z)) : z.length ≤ 4096 := Nat.le_of_succ_le h.le
theorem Tr.str {d : D} (h : Tr d) (z : Str) (e : d = .str z) : z.length ≤ 16777216 := by
  subst e
  exact Nat.le_trans h.slen (by decide)
/-! ## what a value reads as: a list or a tuple of these -/
def Sq (S : Sto) (v : D) (xs : List D) : Prop := v = .lst xs ∨ v = .tup xs ∨ ∃ c, v = .m c ∧ S[c]? = some (.lst xs)
section
variable {S : Sto} {v d : D} {xs : List D}
theorem Sq.rd (h : Sq S v xs) : rdOf S v = some xs := by
  rcases h with rfl | rfl | ⟨c, rfl, e⟩
  · rfl
  · rfl
  · simp [rdOf, lstOf, e]
theorem Sq.ix (h : Sq S v xs) (i : Int) {x : D} (e : atI xs i = some x) : dIx v (.int i) S = .ok x S := by
  rcases h with rfl | rfl | ⟨c, rfl, e2⟩
  · simp [dIx, dctOf, rdOf, lstOf, e]
  · simp [dIx, dctOf, rdOf, lstOf, e]
  · simp [dIx, dctOf, rdOf, lstOf, e, e2]
theorem Sq.len (h : Sq S v xs) : dLen [v] S = .ok (.int xs.length) S := by
  rcases h with rfl | rfl | ⟨c, rfl, e⟩
  · rfl
  · rfl
  · simp [dLen, rdOf, lstOf, e]
theorem Sq.tp (h : Sq S v xs) : dTuple [v] S = .ok (.tup xs) S := by
  rcases h with rfl | rfl | ⟨c, rfl, e⟩
  · rfl
  · rfl
  · simp [dTuple, liOf, lstOf, e]
theorem Sq.sl (h : Sq S v xs) (lo hi : Option Int) : ∃ e, dSl v lo hi S = .ok e S ∧ Sq S e (cut xs lo hi) := by
  rcases h with rfl | rfl | ⟨c, rfl, e⟩
  · exact ⟨_, rfl, .inl rfl⟩
  · exact ⟨_, rfl, .inr (.inl rfl)⟩
  · exact ⟨.lst (cut xs lo hi), by simp [dSl, lstOf, e], .inl rfl⟩
theorem Sq.src (h : Sq S v xs) : srSq v S = .ok (.seq v) S := by
  have e := h.rd
  unfold srSq
  rcases h with rfl | rfl | ⟨c, rfl, _⟩ <;> simp only [e]
theorem Sq.en (h : Sq S v xs) : srEn [v] S = .ok (.enm v) S := by
  unfold srEn
  simp only [h.rd]
end
def seqB : D → Bool
  | .lst _ => true
  | .tup _ => true
  | _ => false
def isStr : D → Bool
  | .str _ => true
  | _ => false
def itemsD : D → List D
  | .lst xs => xs
  | .tup xs => xs
  | _ => []
/-- v reads as the tree d -/
def Rd (S : Sto) (v d : D) : Prop := v = d ∨ ∃ c xs, v = .m c ∧ S[c]? = some (.lst xs) ∧ d = .lst xs
theorem Rd.here {S : Sto} {d : D} : Rd S d d := .inl rfl
theorem Rd.sq {S : Sto} {v d : D} (h : Rd S v d) (b : seqB d = true) : Sq S v (itemsD d) := by
  rcases h with rfl | ⟨c, xs, rfl, e, rfl⟩
  · cases v with
    | lst xs => exact .inl rfl
    | tup xs => exact .inr (.inl rfl)
    | _ => cases b
  · exact .inr (.inr ⟨c, rfl, e⟩)
theorem Rd.ty {S : Sto} {v d : D} (h : Rd S v d) : tyOf S v = tyOf S d := by
  rcases h with rfl | ⟨c, xs, rfl, e, rfl⟩
  · rfl
  · simp [tyOf, e]
theorem isi_seq {S : Sto} {v d : D} (h : Rd S v d) (k : Kd d) : dIsi [v, .tup [.ty "list", .ty "tuple"]] S = .ok (.bl (seqB d)) S := by
  unfold dIsi
  simp only [h.ty]
  cases k <;> rfl
theorem isi_str {S : Sto} {v d : D} (h : Rd S v d) (k : Kd d) : dIsi [v, .ty "str"] S = .ok (.bl (isStr d)) S := by
  unfold dIsi
  simp only [h.ty]
  cases k <;> rfl
theorem is_list_ok (k : Nat) {S : Sto} {v d : D} (h : Rd S v d) (kd : Kd d) : sem MM (k + 1) 2 [v] S = .ok (.bl (seqB d)) S := by
  have e := isi_seq h kd
  rw [s2, runF]
  simp [g2, mkT, e]
/-! ## rows -/
inductive Row where
  | given (i : Nat)
  | either (a b c : Nat)
  | step (q : Bool) (n : Str) (ps : List Nat)
def Row.beq : Row → Row → Bool
  | .given i, .given j => i == j
  | .either a b c, .either d e f => a == d && b == e && c == f
  | .step q n ps, .step r m qs => q == r && decide (n = m) && ps == qs
  | _, _ => false
theorem Row.beq_iff : ∀ a b : Row, a.beq b = true ↔ a = b
  | .given _, .given _ => by simp [Row.beq]
  | .either .., .either .. => by simp [Row.beq, and_assoc]
  | .step .., .step .. => by simp [Row.beq, and_assoc]
  | .given _, .either .. | .given _, .step .. | .either .., .given _ | .either .., .step .. | .step .., .given _ | .step .., .either .. => by simp [Row.beq]
instance rowEq : DecidableEq Row := fun a b => if h : a.beq b = true then .isTrue ((Row.beq_iff a b).mp h) else .isFalse fun e => h ((Row.beq_iff a b).mpr e)
def natD (n : Nat) : D := .int n
def Row.w (q : Bool) : Str := if q = true then "asked" else "made"
def Row.d : Row → D
  | .given i => .tup [.str "given", natD i]
  | .either a b c => .tup [.str "either", natD a, natD b, natD c]
  | .step q n ps => .tup [.str (Row.w q), .str n, .tup (ps.map natD)]
def Row.xs : Row → List D
  | .given i => [.str "given", natD i]
  | .either a b c => [.str "either", natD a, natD b, natD c]
  | .step q n ps => [.str (Row.w q), .str n, .tup (ps.map natD)]
theorem Row.d_eq (r : Row) : r.d = .tup r.xs := by cases r <;> rfl
def Row.asked : Row → Bool
  | .step q _ _ => q
  | _ => false
def Row.nm : Row → List Nat
  | .given _ => []
  | .either a b c => [a, b, c]
  | .step _ _ ps => ps
def Row.hd : Row → Str
  | .given _ => "given"
  | .either .. => "either"
  | .step q _ _ => Row.w q
def natO : D → Option Nat
  | .int i => if 0 ≤ i then some i.toNat else none
  | _ => none
def natsO : List D → Option (List Nat)
  | [] => some []
  | d :: ds => (natO d).bind fun n => (natsO ds).map fun ns => n :: ns
theorem natO_some {d : D} {n : Nat} (h : natO d = some n) : d = natD n := by
  cases d with
  | int i =>
    have h : (if 0 ≤ i then some i.toNat else none) = some n := h
    by_cases hi : 0 ≤ i
    · rw [if_pos hi] at h
      have h := Option.some.inj h
      subst h
      show D.int i = D.int (i.toNat : Nat)
      rw [Int.toNat_of_nonneg hi]
    · rw [if_neg hi] at h
      cases h
  | _ => cases h
theorem natO_num (d : D) : numB d = (natO d).isSome := by
  cases d with
  | int i =>
    unfold natO numB
    by_cases h : 0 ≤ i
    · simp [h]
    · simp [h]
  | _ => rfl
theorem natsO_num : ∀ ds : List D, ds.all numB = (natsO ds).isSome
  | [] => rfl
  | d :: ds => by
    rw [List.all_cons, natO_num, natsO_num ds]
    show _ = ((natO d).bind fun n => (natsO ds).map fun ns => n :: ns).isSome
    cases natO d with
    | none => rfl
    | some n =>
      cases h : natsO ds with
      | none => rfl
      | some ns => rfl
theorem natsO_some : ∀ {ds : List D} {ns : List Nat}, natsO ds = some ns → ds = ns.map natD
  | [], ns, h => by cases h; rfl
  | d :: ds, ns, h => by
    obtain ⟨n, h1, h⟩ := Option.bind_eq_some_iff.mp h
    obtain ⟨ms, h2, rfl⟩ := Option.map_eq_some_iff.mp h
    rw [List.map_cons, natO_some h1, natsO_some h2]
theorem natO_nat (n : Nat) : natO (natD n) = some n := by
  show (if (0 : Int) ≤ (n : Int) then some (n : Int).toNat else none) = _
  rw [if_pos (Int.natCast_nonneg n), Int.toNat_natCast]
theorem natsO_nats : ∀ ns : List Nat, natsO (ns.map natD) = some ns
  | [] => rfl
  | n :: ns => by
    show (natO (natD n)).bind (fun n => (natsO (ns.map natD)).map fun ns => n :: ns) = _
    rw [natO_nat, natsO_nats ns]
    rfl
def stepO (q : Bool) (n p : D) : Option Row := match n with
  | .str n => if nameS n = true ∧ seqB p = true then (natsO (itemsD p)).map (Row.step q n) else none
  | _ => none
/-- a row's form, by the things that stand there -/
def formL (t : Str) (r : List D) : Option Row :=
  if t = "given" then (match r with
    | [a] => (natO a).map Row.given
    | _ => none)
  else if t = "either" then (match r with
    | [a, b, c] => (natO a).bind fun a => (natO b).bind fun b => (natO c).map fun c => Row.either a b c
    | _ => none)
  else if t = "made" then (match r with
    | [n, p] => stepO false n p
    | _ => none)
  else if t = "asked" then (match r with
    | [n, p] => stepO true n p
    | _ => none)
  else none
def formX : List D → Option Row
  | .str t :: r => formL t r
  | _ => none
def formR (d : D) : Option Row := formX (itemsD d)
def optR : Option Row → D
  | some r => r.d
  | none => .non
/-! ### lists for tuples: the same form -/
mutual
def norm : D → D
  | .lst xs => .tup (norms xs)
  | .tup xs => .tup (norms xs)
  | d => d
def norms : List D → List D
  | [] => []
  | d :: ds => norm d :: norms ds
end
theorem norms_map : ∀ xs : List D, norms xs = xs.map norm
  | [] => rfl
  | x :: xs => by rw [norms, norms_map xs, List.map_cons]
theorem natO_norm (d : D) : natO (norm d) = natO d := by
  cases d <;> rfl
theorem natsO_norm : ∀ ds : List D, natsO (ds.map norm) = natsO ds
  | [] => rfl
  | d :: ds => by
    show (natO (norm d)).bind (fun n => (natsO (ds.map norm)).map fun ns => n :: ns) = _
    rw [natO_norm, natsO_norm ds]
    rfl
theorem items_norm (d : D) : itemsD (norm d) = (itemsD d).map norm := by
  cases d with
  | lst xs => exact norms_map xs
  | tup xs => exact norms_map xs
  | _ => rfl
theorem seqB_norm (d : D) : seqB (norm d) = seqB d := by
  cases d <;> rfl
theorem stepO_norm (q : Bool) (n p : D) : stepO q (norm n) (norm p) = stepO q n p := by
  unfold stepO
  cases n with
  | str z =>
    show (if nameS z = true ∧ seqB (norm p) = true then (natsO (itemsD (norm p))).map (Row.step q z) else none) = _
    rw [seqB_norm, items_norm, natsO_norm]
  | _ => rfl
theorem formL_norm (t : Str) (r : List D) : formL t (r.map norm) = formL t r := by
  unfold formL
  split
  · match r with
    | [] => rfl
    | [a] => simp only [List.map_cons, List.map_nil, natO_norm]
    | _ :: _ :: _ => rfl
  split
  · match r with
    | [] => rfl
    | [_] => rfl
    | [_, _] => rfl
    | [a, b, c] => simp only [List.map_cons, List.map_nil, natO_norm]
    | _ :: _ :: _ :: _ :: _ => rfl
  split
  · match r with
    | [] => rfl
    | [_] => rfl
    | [n, p] => simp only [List.map_cons, List.map_nil, stepO_norm]
    | _ :: _ :: _ :: _ => rfl
  split
  · match r with
    | [] => rfl
    | [_] => rfl
    | [n, p] => simp only [List.map_cons, List.map_nil, stepO_norm]
    | _ :: _ :: _ :: _ => rfl
  · rfl
theorem formX_norm : ∀ xs : List D, formX (xs.map norm) = formX xs
  | [] => rfl
  | .str t :: r => formL_norm t r
  | .non :: _ | .bl _ :: _ | .int _ :: _ | .lst _ :: _ | .tup _ :: _ | .frz _ :: _ | .dct .. :: _ | .m _ :: _ | .fn _ :: _ | .cl _ :: _ | .ty _ :: _ => rfl
theorem formR_norm (d : D) : formR (norm d) = formR d := by
  unfold formR
  rw [items_norm, formX_norm]
theorem form_of_norm {d e : D} (h : norm d = norm e) : formR d = formR e := by rw [← formR_norm d, h, formR_norm]
def Row.good : Row → Bool
  | .step _ n ps => nameS n && (PyData.strOk n && decide (ps.length ≤ 4096))
  | _ => true
theorem Row.good_step {q : Bool} {n : Str} {ps : List Nat} (h : (Row.step q n ps).good = true) : nameS n = true ∧ PyData.strOk n = true ∧ ps.length ≤ 4096 := by
  have h : (nameS n && (PyData.strOk n && decide (ps.length ≤ 4096))) = true := h
  simpa using h
theorem Row.good_len {r : Row} (h : r.good = true) : r.nm.length ≤ 4096 := by
  cases r with
  | given i => exact Nat.zero_le _
  | either a b c => exact (by decide : 3 ≤ 4096)
  | step q n ps => exact (Row.good_step h).2.2
theorem form_row (r : Row) (h : r.good = true) : formR r.d = some r := by
  cases r with
  | given i =>
    show (natO (natD i)).map Row.given = _
    rw [natO_nat]
    rfl
  | either a b c =>
    show ((natO (natD a)).bind fun a => (natO (natD b)).bind fun b => (natO (natD c)).map fun c => Row.either a b c) = _
    rw [natO_nat, natO_nat, natO_nat]
    rfl
  | step q n ps =>
    have e : stepO q (.str n) (.tup (ps.map natD)) = some (.step q n ps) := by
      unfold stepO
      show (if nameS n = true ∧ true = true then (natsO (ps.map natD)).map (Row.step q n) else none) = _
      rw [if_pos ⟨(Row.good_step h).1, rfl⟩, natsO_nats]
      rfl
    cases q
    · exact e
    · exact e
theorem Tr.items {d : D} (h : Tr d) : Trs (itemsD d) := by
  cases d with
  | lst xs => exact h.lst
  | tup xs => exact h.tup
  | _ => exact ⟨rfl, Nat.zero_le _⟩
theorem form_good {d : D} {r : Row} (t : Tr d) (h : formR d = some r) : r.good = true := by
  have st : ∀ {q n p}, stepO q n p = some r → Tr n → Tr p → r.good = true := fun {q n p} h tn tp => by
    unfold stepO at h
    split at h
    · split at h
      · rename_i hc
        obtain ⟨ns, e1, rfl⟩ := Option.map_eq_some_iff.mp h
        have e2 := natsO_some e1
        have e3 : (itemsD p).length = ns.length := by rw [e2, List.length_map]
        have e4 := tp.items.len
        show (_ && (_ && _)) = true
        rw [hc.1, show PyData.strOk _ = true from tn.sh, Bool.true_and, Bool.true_and, decide_eq_true_iff]
        omega
      · cases h
    · cases h
  have ti := t.items
  unfold formR formX at h
  split at h
  · rename_i z rr hi
    rw [hi] at ti
    unfold formL at h
    split at h
    · split at h
      · obtain ⟨a, _, rfl⟩ := Option.map_eq_some_iff.mp h
        rfl
      · cases h
    split at h
    · split at h
      · obtain ⟨a, _, h⟩ := Option.bind_eq_some_iff.mp h
        obtain ⟨b, _, h⟩ := Option.bind_eq_some_iff.mp h
        obtain ⟨c, _, rfl⟩ := Option.map_eq_some_iff.mp h
        rfl
      · cases h
    split at h
    · split at h
      · exact st h (ti.mem (by simp)) (ti.mem (by simp))
      · cases h
    split at h
    · split at h
      · exact st h (ti.mem (by simp)) (ti.mem (by simp))
      · cases h
    · cases h
  · cases h
/-! ### what is wrong first with a row behind others; with a web -/
def askAt (rows : List Row) (i : Nat) : Bool := match rows[i]? with
  | some r => r.asked
  | none => false
def badK (rows : List Row) : Row → Bool
  | .given _ => false
  | .either a b c => !(askAt rows a && !askAt rows b && !askAt rows c)
  | .step _ _ ps => ps.any (askAt rows)
def alikeR : Row → Bool
  | .either _ b c => b == c
  | _ => false
def why (rows : List Row) (r : Row) : Option Str := if r.nm.any (fun i => decide (rows.length ≤ i)) = true then some "ahead" else if badK rows r = true then some "kind" else if alikeR r = true then some "alike" else none
def whyO (rows : List Row) : Option Row → Option Str
  | none => some "form"
  | some r => why rows r
def optS : Option Str → D
  | some s => .str s
  | none => .non
def fltL (acc : List Row) : List D → List Row × Option (Nat × Str)
  | [] => (acc, none)
  | d :: ds => match formR d with
    | none => (acc, some (acc.length, "form"))
    | some r => match why acc r with
      | some w => (acc, some (acc.length, w))
      | none => if r ∈ acc then (acc, some (acc.length, "twice")) else fltL (acc ++ [r]) ds
def fault (d : D) : List Row × Option (Nat × Str) := if seqB d = true then fltL [] (itemsD d) else ([], some (0, "form"))
def optF : Option (Nat × Str) → D
  | some (i, w) => .tup [natD i, .str w]
  | none => .non
theorem fltL_norm : ∀ (xs : List D) (acc : List Row), fltL acc (xs.map norm) = fltL acc xs
  | [], _ => rfl
  | x :: xs, acc => by
    simp only [List.map_cons, fltL, formR_norm]
    split
    · rfl
    · split
      · rfl
      · split
        · rfl
        · exact fltL_norm xs _
theorem fault_norm (d : D) : fault (norm d) = fault d := by
  unfold fault
  rw [seqB_norm, items_norm, fltL_norm]
theorem fault_of_norm {d e : D} (h : norm d = norm e) : fault d = fault e := by rw [← fault_norm d, h, fault_norm]
/-- a right web -/
inductive Web : List Row → Prop
  | nil : Web []
  | snoc {rows : List Row} {r : Row} : Web rows → r.good = true → why rows r = none → r ∉ rows → Web (rows ++ [r])
theorem fltL_web {acc : List Row} (h : Web acc) : ∀ xs : List D, (∀ x, x ∈ xs → Tr x) → Web (fltL acc xs).1
  | [], _ => h
  | x :: xs, ht => by
    unfold fltL
    split
    · exact h
    · rename_i r hr
      split
      · exact h
      · rename_i hw
        split
        · exact h
        · rename_i hn
          exact fltL_web (.snoc h (form_good (ht x List.mem_cons_self) hr) hw hn) xs fun y hy => ht y (List.mem_cons_of_mem _ hy)
theorem Web.good {rows : List Row} (h : Web rows) : ∀ r, r ∈ rows → r.good = true := by
  induction h with
  | nil => intro r h; cases h
  | snoc _ g _ _ ih =>
    intro r h
    rcases List.mem_append.mp h with h | h
    · exact ih r h
    · rw [List.mem_singleton.mp h]; exact g
theorem fltL_app : ∀ (xs ys : List D) (acc rows : List Row), fltL acc xs = (rows, none) → fltL acc (xs ++ ys) = fltL rows ys
  | [], ys, acc, rows, h => by
    cases h
    rfl
  | x :: xs, ys, acc, rows, h => by
    unfold fltL at h
    rw [List.cons_append]
    conv => lhs; unfold fltL
    split at h
    · cases h
    · split at h
      · cases h
      · split at h
        · cases h
        · rename_i hn
          rw [if_neg hn]
          exact fltL_app xs ys _ rows h
theorem Web.flt {rows : List Row} (h : Web rows) : fltL [] (rows.map Row.d) = (rows, none) := by
  induction h with
  | nil => rfl
  | snoc h g hw hn ih =>
    rw [List.map_append, fltL_app _ _ _ _ ih]
    simp only [List.map_cons, List.map_nil, fltL, form_row _ g, hw, if_neg hn]
end K08
namespace K08
open PySem PySem.Spec PyProof.Rows L2 Ev
/-! ## as_row, _law_g_form -/
@[simp] theorem eq_int (i j : Int) (S : Sto) : dEq (.int i) (.int j) S = .ok (.bl (decide (i = j))) S := by
  show (if SeqAt.shaped (.int i) = true ∧ SeqAt.shaped (.int j) = true then R.ok (D.bl (i == j)) S else R.bad) = _
  rw [if_pos ⟨rfl, rfl⟩]
  rfl
@[simp] theorem ne_int (i j : Int) (S : Sto) : dNe (.int i) (.int j) S = .ok (.bl (!decide (i = j))) S := by
  show (if SeqAt.shaped (.int i) = true ∧ SeqAt.shaped (.int j) = true then R.ok (D.bl (!(i == j))) S else R.bad) = _
  rw [if_pos ⟨rfl, rfl⟩]
  rfl
@[simp] theorem eq_str (x y : Str) (S : Sto) : dEq (.str x) (.str y) S = .ok (.bl (decide (x = y))) S := id rfl
@[simp] theorem ne_str (x y : Str) (S : Sto) : dNe (.str x) (.str y) S = .ok (.bl (!decide (x = y))) S := id rfl
@[simp] theorem ne_non_int (j : Int) (S : Sto) : dNe .non (.int j) S = .ok (.bl true) S := id rfl
@[simp] theorem co_eq : dCo .Eq = dEq := id rfl
@[simp] theorem co_ne : dCo .NotEq = dNe := id rfl
@[simp] theorem co_in : dCo .In = dIn false := id rfl
@[simp] theorem co_nin : dCo .NotIn = dIn true := id rfl
@[simp] theorem co_lt (i j : Int) (S : Sto) : dCo .Lt (.int i) (.int j) S = .ok (.bl (decide (i < j))) S := id rfl
@[simp] theorem co_le (i j : Int) (S : Sto) : dCo .LtE (.int i) (.int j) S = .ok (.bl (decide (i ≤ j))) S := id rfl
@[simp] theorem co_gt (i j : Int) (S : Sto) : dCo .Gt (.int i) (.int j) S = .ok (.bl (decide (j < i))) S := id rfl
@[simp] theorem co_ge (i j : Int) (S : Sto) : dCo .GtE (.int i) (.int j) S = .ok (.bl (decide (j ≤ i))) S := id rfl
@[simp] theorem co_is (a : D) (S : Sto) : dCo .Is a .non S = .ok (.bl (isNon a)) S := id rfl
@[simp] theorem co_not (a : D) (S : Sto) : dCo .IsNot a .non S = .ok (.bl (!isNon a)) S := id rfl
@[simp] theorem ne_given_either : decide (("given" : Str) = "either") = false := by decide
@[simp] theorem ne_given_made : decide (("given" : Str) = "made") = false := by decide
@[simp] theorem ne_given_asked : decide (("given" : Str) = "asked") = false := by decide
@[simp] theorem ne_either_given : decide (("either" : Str) = "given") = false := by decide
@[simp] theorem ne_either_made : decide (("either" : Str) = "made") = false := by decide
@[simp] theorem ne_either_asked : decide (("either" : Str) = "asked") = false := by decide
@[simp] theorem ne_made_given : decide (("made" : Str) = "given") = false := by decide
@[simp] theorem ne_made_either : decide (("made" : Str) = "either") = false := by decide
@[simp] theorem ne_made_asked : decide (("made" : Str) = "asked") = false := by decide
@[simp] theorem ne_asked_given : decide (("asked" : Str) = "given") = false := by decide
@[simp] theorem ne_asked_either : decide (("asked" : Str) = "either") = false := by decide
@[simp] theorem ne_asked_made : decide (("asked" : Str) = "made") = false := by decide
theorem atN {xs : List D} {i : Nat} {x : D} (h : xs[i]? = some x) : atI xs (i : Int) = some x := by
  have hi : i < xs.length := (List.getElem?_eq_some_iff.mp h).1
  unfold atI ixN
  rw [if_pos (by omega), if_pos (by omega)]
  exact h
theorem at0 {x : D} {r : List D} : atI (x :: r) 0 = some x := atN (i := 0) rfl
theorem at1 {x y : D} {r : List D} : atI (x :: y :: r) 1 = some y := atN (i := 1) rfl
theorem at2 {x y z : D} {r : List D} : atI (x :: y :: z :: r) 2 = some z := atN (i := 2) rfl
theorem at3 {x y z u : D} {r : List D} : atI (x :: y :: z :: u :: r) 3 = some u := atN (i := 3) rfl
/-- the tail xs[1:] -/
theorem cut1 (x : D) (r : List D) : cut (x :: r) (some 1) none = r := by
  unfold cut
  have e : HT.sIx (x :: r).length 0 (some 1) = 1 := by
    rw [show (1 : Int) = ((1 : Nat) : Int) from rfl, HT.sIx_nat]
    simp
  rw [e, HT.sIx_none]
  simp
def kvF : List (Str × D) := [("made", (.int (3))), ("asked", (.int (3))), ("either", (.int (4))), ("given", (.int (2)))]
theorem lk_other {z : Str} (h1 : z ≠ "made") (h2 : z ≠ "asked") (h3 : z ≠ "either") (h4 : z ≠ "given") : kvF.lookup z = none := by
  have b : ∀ {y : Str}, z ≠ y → (z == y) = false := fun h => by simpa using h
  simp [kvF, List.lookup_cons, b h1, b h2, b h3, b h4]
theorem dkg (z : Str) (S : Sto) : dKG [("made", D.int 3), ("asked", D.int 3), ("either", D.int 4), ("given", D.int 2)] (.str z) S = .ok ((kvF.lookup z).getD .non) S := rfl
theorem beq_sym (x z : Str) : (x == z) = decide (z = x) := by
  by_cases h : z = x
  · subst h
    simp
  · rw [decide_eq_false h]
    simpa using fun e : x = z => h e.symm
theorem in2 (z a b : Str) (S : Sto) : dIn false (.str z) (.tup [.str a, .str b]) S = .ok (.bl (decide (z = a) || decide (z = b))) S := by
  show R.ok (D.bl ((a == z) || ((b == z) || false))) S = _
  rw [Bool.or_false, beq_sym, beq_sym]
theorem nin2 (z a b : Str) (S : Sto) : dIn true (.str z) (.tup [.str a, .str b]) S = .ok (.bl (!(decide (z = a) || decide (z = b)))) S := by
  show R.ok (D.bl (!((a == z) || ((b == z) || false)))) S = _
  rw [Bool.or_false, beq_sym, beq_sym]
/-- all(f(one) for one in xs), f a def on single trees -/
theorem all_cl {v : D} {xs : List D} {S : Sto} {ρ : Ev.Env} {fe : Ex} {g : Fn} {p : D → Bool} (i : Nat) (hi : i < ρ.length) (he : fe ρ S = .ok v S) (h : rdOf S v = some xs) (hz : xs.length ≤ 4096) (hg : ∀ x, x ∈ xs → g [x] S = .ok (.bl (p x)) S) :
    lcN mkL [i] (src1 srSq fe) (bnN i) yes (clP 1 g (arC (vrb i) arN)) ρ S = .ok (.lst (xs.map fun x => .bl (p x))) S :=
  lc_pure he h (Nat.le_trans hz (by decide)) (fun x => .bl (p x)) fun x hx => by
    have e : (List.set ρ i (some x))[i]? = some (some x) := List.getElem?_set_self hi
    simp [wipeD, e, hg x hx]
@[simp] theorem all_bls {α : Type} (p : α → Bool) (xs : List α) (S : Sto) : dAll [.lst (xs.map fun x => .bl (p x))] S = .ok (.bl (xs.all p)) S := by
  show (match (blsOf (xs.map fun x => D.bl (p x))) with | some bs => R.ok (D.bl (bs.all id)) S | none => R.bad) = _
  rw [bls_map]
  simp
@[simp] theorem any_bls {α : Type} (p : α → Bool) (xs : List α) (S : Sto) : dAny [.lst (xs.map fun x => .bl (p x))] S = .ok (.bl (xs.any p)) S := by
  show (match (blsOf (xs.map fun x => D.bl (p x))) with | some bs => R.ok (D.bl (bs.any id)) S | none => R.bad) = _
  rw [bls_map]
  simp
theorem form_no {d : D} (h : seqB d = false) : formR d = none := by
  unfold formR
  cases d <;> first | rfl | cases h
theorem len1 {r : List D} (h : r.length = 1) : ∃ a, r = [a] := by
  match r, h with
  | [a], _ => exact ⟨a, rfl⟩
theorem len2 {r : List D} (h : r.length = 2) : ∃ a b, r = [a, b] := by
  match r, h with
  | [a, b], _ => exact ⟨a, b, rfl⟩
theorem len3 {r : List D} (h : r.length = 3) : ∃ a b c, r = [a, b, c] := by
  match r, h with
  | [a, b, c], _ => exact ⟨a, b, c, rfl⟩
theorem giv_no {r : List D} (h : r.length ≠ 1) : formL "given" r = none := by
  unfold formL
  rw [if_pos rfl]
  match r, h with
  | [], _ => rfl
  | [_], h => exact absurd rfl h
  | _ :: _ :: _, _ => rfl
theorem eit_no {r : List D} (h : r.length ≠ 3) : formL "either" r = none := by
  unfold formL
  rw [if_neg (by decide), if_pos rfl]
  match r, h with
  | [], _ => rfl
  | [_], _ => rfl
  | [_, _], _ => rfl
  | [_, _, _], h => exact absurd rfl h
  | _ :: _ :: _ :: _ :: _, _ => rfl
theorem giv_yes (a : D) : formL "given" [a] = (natO a).map Row.given := by
  unfold formL
  rw [if_pos rfl]
theorem eit_yes (a b c : D) : formL "either" [a, b, c] = ((natO a).bind fun a => (natO b).bind fun b => (natO c).map fun c => Row.either a b c) := by
  unfold formL
  rw [if_neg (by decide), if_pos rfl]
theorem stp_eq (q : Bool) (r : List D) : formL (Row.w q) r = (match r with
    | [n, p] => stepO q n p
    | _ => none) := by
  cases q <;> rfl
theorem stp_no {q : Bool} {r : List D} (h : r.length ≠ 2) : formL (Row.w q) r = none := by
  rw [stp_eq]
  match r, h with
  | [], _ => rfl
  | [_], _ => rfl
  | [_, _], h => exact absurd rfl h
  | _ :: _ :: _ :: _, _ => rfl
theorem oth_no {z : Str} {r : List D} (h1 : z ≠ "made") (h2 : z ≠ "asked") (h3 : z ≠ "either") (h4 : z ≠ "given") : formL z r = none := by
  unfold formL
  rw [if_neg h4, if_neg h3, if_neg h1, if_neg h2]
theorem giv_row {a : D} (h : numB a = true) : optR ((natO a).map Row.given) = .tup [.str "given", a] := by
  rw [natO_num] at h
  obtain ⟨n, e⟩ := Option.isSome_iff_exists.mp h
  rw [e, natO_some e]
  rfl
theorem giv_row' {a : D} (h : numB a = false) : (natO a).map Row.given = none := by
  rw [natO_num] at h
  rw [Option.isSome_eq_false_iff.mp h |> Option.isNone_iff_eq_none.mp]
  rfl
theorem eit_row {a b c : D} (h : [a, b, c].all numB = true) : optR ((natO a).bind fun a => (natO b).bind fun b => (natO c).map fun c => Row.either a b c) = .tup [.str "either", a, b, c] := by
  simp only [List.all_cons, List.all_nil, Bool.and_true, Bool.and_eq_true, natO_num] at h
  obtain ⟨n, e⟩ := Option.isSome_iff_exists.mp h.1
  obtain ⟨m, e2⟩ := Option.isSome_iff_exists.mp h.2.1
  obtain ⟨l, e3⟩ := Option.isSome_iff_exists.mp h.2.2
  rw [e, e2, e3, natO_some e, natO_some e2, natO_some e3]
  rfl
theorem eit_row' {a b c : D} (h : [a, b, c].all numB = false) : ((natO a).bind fun a => (natO b).bind fun b => (natO c).map fun c => Row.either a b c) = none := by
  simp only [List.all_cons, List.all_nil, Bool.and_true, natO_num] at h
  cases e : natO a with
  | none => rfl
  | some _ =>
    cases e2 : natO b with
    | none => rfl
    | some _ =>
      cases e3 : natO c with
      | none => rfl
      | some _ => rw [e, e2, e3] at h; cases h
theorem stp_row {q : Bool} {n p : D} (h1 : nameB n = true) (h2 : seqB p = true) (h3 : (itemsD p).all numB = true) : optR (stepO q n p) = .tup [.str (Row.w q), n, .tup (itemsD p)] := by
  rw [natsO_num] at h3
  obtain ⟨ns, e⟩ := Option.isSome_iff_exists.mp h3
  cases n with
  | str z =>
    unfold stepO
    simp only []
    rw [if_pos ⟨h1, h2⟩, e, natsO_some e]
    rfl
  | _ => cases h1
theorem stp_row' {q : Bool} {n p : D} (h : (nameB n && (seqB p && (itemsD p).all numB)) = false) : stepO q n p = none := by
  unfold stepO
  cases n with
  | str z =>
    simp only []
    split
    · rename_i hc
      have h1 : nameB (.str z) = true := hc.1
      rw [h1, hc.2, natsO_num] at h
      cases e : natsO (itemsD p) with
      | none => rfl
      | some ns => rw [e] at h; cases h
    · rfl
  | _ => rfl
theorem as_row_ok (k : Nat) {S : Sto} {v d : D} (hv : Rd S v d) (h : Tr d) : sem MM (k + 3) 4 [v] S = .ok (optR (formR d)) S := by
  rw [s4, runF]
  have h0 : sem MM (k + 2) 2 [v] S = .ok (.bl (seqB d)) S := is_list_ok (k + 1) hv h.kd
  cases hb : seqB d with
  | false =>
    rw [hb] at h0
    rw [form_no hb]
    simp [g4, h0, optR]
  | true =>
    rw [hb] at h0
    have hs := hv.sq hb
    have hts : Trs (itemsD d) := by
      cases d with
      | lst xs => exact h.lst
      | tup xs => exact h.tup
      | _ => cases hb
    unfold formR
    generalize itemsD d = xs at hs hts ⊢
    have hl := hs.len
    match xs, hs, hl, hts with
    | [], hs, hl, hts => simp [g4, h0, hl, formX, optR]
    | t :: r, hs, hl, hts =>
      have hz : ¬ ((r.length : Int) + 1 = 0) := by omega
      have hx := hs.ix 0 (x := t) at0
      have tr : Tr t := hts.mem List.mem_cons_self
      have hst := isi_str (S := S) Rd.here tr.kd
      cases t with
      | str z =>
        have hst : dIsi [.str z, .ty "str"] S = .ok (.bl true) S := hst
        obtain ⟨e1, hs1, hs2⟩ := hs.sl (some 1) none
        rw [cut1] at hs2
        have hr : r.length ≤ 4096 := by
          have := hts.len
          simp at this
          omega
        have hrt : ∀ x, x ∈ r → Tr x := fun x hx => hts.mem (List.mem_cons_of_mem _ hx)
        have hall := all_cl (v := e1) (S := S) (ρ := [some v, none]) (fe := slE (vrb 0) (opS (cst (.int 1))) opN) (g := sem MM (k + 2) 1) (p := numB) 1 (by simp) (by simp [hs1]) hs2.rd hr fun x hx => is_number_ok k (hrt x hx).kd S
        have htp := hs.tp
        by_cases h4 : z = "given"
        · subst h4
          have hlk : kvF.lookup ("given" : Str) = some (D.int 2) := rfl
          by_cases hn : r.length = 1
          · obtain ⟨a, rfl⟩ := len1 hn
            show _ = R.ok (optR (formL "given" [a])) S
            rw [giv_yes]
            cases hnum : numB a with
            | true =>
              rw [giv_row hnum]
              simp [g4, h0, hl, hz, dAll, liOf, lstOf, blsOf, hx, hst, dkg, hlk, mkT, in2, hall, htp, hnum]
            | false =>
              rw [giv_row' hnum]
              simp [g4, h0, hl, hz, dAll, liOf, lstOf, blsOf, hx, hst, dkg, hlk, mkT, in2, hall, htp, hnum, optR]
          · show _ = R.ok (optR (formL "given" r)) S
            rw [giv_no hn]
            have hn2 : ¬ (2 : Int) = (r.length : Int) + 1 := by omega
            simp [g4, h0, hl, hz, dAll, liOf, lstOf, blsOf, hx, hst, dkg, hlk, hn2, optR]
        by_cases h3 : z = "either"
        · subst h3
          have hlk : kvF.lookup ("either" : Str) = some (D.int 4) := rfl
          by_cases hn : r.length = 3
          · obtain ⟨a, b, c, rfl⟩ := len3 hn
            show _ = R.ok (optR (formL "either" [a, b, c])) S
            rw [eit_yes]
            cases hnum : [a, b, c].all numB with
            | true =>
              rw [eit_row hnum]
              simp at hnum
              simp [g4, h0, hl, hz, dAll, liOf, lstOf, blsOf, hx, hst, dkg, hlk, mkT, in2, hall, htp, hnum]
            | false =>
              rw [eit_row' hnum]
              have hnum2 : (numB a && (numB b && numB c)) = false := by simpa using hnum
              have hall2 : dAll [.lst ([a, b, c].map fun x => .bl (numB x))] S = .ok (.bl false) S := by
                rw [all_bls, hnum]
              simp only [List.map_cons, List.map_nil] at hall2 hall
              simp [g4, h0, hl, hz, dAll, liOf, lstOf, blsOf, hx, hst, dkg, hlk, mkT, in2, hall, hall2, htp, optR, hnum2]
          · show _ = R.ok (optR (formL "either" r)) S
            rw [eit_no hn]
            have hn2 : ¬ (4 : Int) = (r.length : Int) + 1 := by omega
            simp [g4, h0, hl, hz, dAll, liOf, lstOf, blsOf, hx, hst, dkg, hlk, hn2, optR]
        have stp : ∀ q : Bool, z = Row.w q → endR (g4 (sem MM (k + 2)) ([v].map some ++ List.replicate (2 - [v].length) none) S) = .ok (optR (formX (.str z :: r))) S := fun q hq => by
          show _ = R.ok (optR (formL z r)) S
          have hlk : kvF.lookup z = some (D.int 3) := by
            subst hq
            cases q <;> rfl
          by_cases hn : r.length = 2
          · obtain ⟨n, p, rfl⟩ := len2 hn
            have hf : formL z [n, p] = stepO q n p := by rw [hq, stp_eq]
            rw [hf]
            have hx1 := hs.ix 1 at1
            have hx2 := hs.ix 2 at2
            have tn := hrt n (by simp)
            have tp := hrt p (by simp)
            have hnm : sem MM (k + 2) 3 [n] S = .ok (.bl (nameB n)) S := is_name_ok (k + 1) tn.kd tn.str S
            have hsq : sem MM (k + 2) 2 [p] S = .ok (.bl (seqB p)) S := is_list_ok (k + 1) Rd.here tp.kd
            cases b1 : nameB n with
            | false =>
              rw [stp_row' (by rw [b1]; rfl)]
              rw [b1] at hnm
              simp [g4, h0, hl, hz, dAll, liOf, lstOf, blsOf, hx, hst, dkg, hlk, mkT, in2, h3, h4, hx1, hnm, optR]
            | true =>
              cases b2 : seqB p with
              | false =>
                rw [stp_row' (by rw [b1, b2]; rfl)]
                rw [b1] at hnm
                rw [b2] at hsq
                simp [g4, h0, hl, hz, dAll, liOf, lstOf, blsOf, hx, hst, dkg, hlk, mkT, in2, h3, h4, hx1, hx2, hnm, hsq, optR]
              | true =>
                rw [b1] at hnm
                rw [b2] at hsq
                have hpq : Sq S p (itemsD p) := Rd.here.sq b2
                have tps : Trs (itemsD p) := by
                  cases p with
                  | lst xs => exact tp.lst
                  | tup xs => exact tp.tup
                  | _ => cases b2
                have hal2 := all_cl (v := p) (S := S) (ρ := [some v, none]) (fe := bi2 dIx (vrb 0) (cst (.int 2))) (g := sem MM (k + 2) 1) (p := numB) 1 (by simp) (by simp [hx2]) hpq.rd tps.len fun x hx => is_number_ok k (tps.mem hx).kd S
                cases b3 : (itemsD p).all numB with
                | true =>
                  rw [stp_row b1 b2 b3, ← hq]
                  have hall2 : dAll [.lst ((itemsD p).map fun x => .bl (numB x))] S = .ok (.bl true) S := by
                    rw [all_bls, b3]
                  simp [g4, h0, hl, hz, hx, hst, dkg, hlk, mkT, in2, h3, h4, hx1, hx2, hnm, hsq, hal2, hall2, hpq.tp]
                | false =>
                  rw [stp_row' (by rw [b1, b2, b3]; rfl)]
                  have hall2 : dAll [.lst ((itemsD p).map fun x => .bl (numB x))] S = .ok (.bl false) S := by
                    rw [all_bls, b3]
                  simp [g4, h0, hl, hz, hx, hst, dkg, hlk, mkT, in2, h3, h4, hx1, hx2, hnm, hsq, hal2, hall2, optR]
          · have hf : formL z r = none := by rw [hq, stp_no hn]
            rw [hf]
            have hn2 : ¬ (3 : Int) = (r.length : Int) + 1 := by omega
            simp [g4, h0, hl, hz, dAll, liOf, lstOf, blsOf, hx, hst, dkg, hlk, hn2, optR]
        by_cases h1 : z = "made"
        · exact stp false h1
        by_cases h2 : z = "asked"
        · exact stp true h2
        · show _ = R.ok (optR (formL z r)) S
          rw [oth_no h1 h2 h3 h4]
          have hlk := lk_other h1 h2 h3 h4
          simp [g4, h0, hl, hz, dAll, liOf, lstOf, blsOf, hx, hst, dkg, hlk, optR]
      | _ =>
        have hst : dIsi [_, .ty "str"] S = .ok (.bl false) S := hst
        simp [g4, h0, hl, hz, dAll, liOf, lstOf, blsOf, hx, hst, formX, optR]
end K08
namespace K08
open PySem PySem.Spec PyProof.Rows L2 Ev
theorem g_form_ok (k : Nat) {S : Sto} {v d : D} (hv : Rd S v d) (h : Tr d) : sem MM (k + 2) 23 [v] S = .ok (optR (formR d)) S := by
  rw [s23, runF]
  have h0 := isi_seq hv h.kd
  cases hb : seqB d with
  | false =>
    rw [hb] at h0
    rw [form_no hb]
    simp [g23, mkT, h0, optR]
  | true =>
    rw [hb] at h0
    have hs := hv.sq hb
    have hts : Trs (itemsD d) := by
      cases d with
      | lst xs => exact h.lst
      | tup xs => exact h.tup
      | _ => cases hb
    unfold formR
    generalize itemsD d = xs at hs hts ⊢
    have hl := hs.len
    match xs, hs, hl, hts with
    | [], hs, hl, hts => simp [g23, mkT, h0, hl, formX, optR]
    | t :: r, hs, hl, hts =>
      have hz : ¬ ((r.length : Int) + 1 = 0) := by omega
      have hx := hs.ix 0 (x := t) at0
      have tr : Tr t := hts.mem List.mem_cons_self
      have hst := isi_str (S := S) Rd.here tr.kd
      cases t with
      | str z =>
        have hst : dIsi [.str z, .ty "str"] S = .ok (.bl true) S := hst
        obtain ⟨e1, hs1, hs2⟩ := hs.sl (some 1) none
        rw [cut1] at hs2
        have hr : r.length ≤ 4096 := by
          have := hts.len
          simp at this
          omega
        have hrt : ∀ x, x ∈ r → Tr x := fun x hx => hts.mem (List.mem_cons_of_mem _ hx)
        have hall := all_cl (v := e1) (S := S) (ρ := [some v, none]) (fe := slE (vrb 0) (opS (cst (.int 1))) opN) (g := sem MM (k + 1) 21) (p := numB) 1 (by simp) (by simp [hs1]) hs2.rd hr fun x hx => g_is_int_ok k (hrt x hx).kd S
        have htp := hs.tp
        by_cases h4 : z = "given"
        · subst h4
          by_cases hn : r.length = 1
          · obtain ⟨a, rfl⟩ := len1 hn
            show _ = R.ok (optR (formL "given" [a])) S
            rw [giv_yes]
            have hx1 := hs.ix 1 at1
            have hi : sem MM (k + 1) 21 [a] S = .ok (.bl (numB a)) S := g_is_int_ok k (hrt a (by simp)).kd S
            cases hnum : numB a with
            | true =>
              rw [giv_row hnum]
              rw [hnum] at hi
              simp [g23, h0, hl, hz, hx, hx1, hi, hst, mkT, htp]
            | false =>
              rw [giv_row' hnum]
              rw [hnum] at hi
              simp [g23, h0, hl, hz, hx, hx1, hi, hst, mkT, optR]
          · show _ = R.ok (optR (formL "given" r)) S
            rw [giv_no hn]
            have hn2 : ¬ (r.length : Int) + 1 = 2 := by omega
            simp [g23, h0, hl, hz, hx, hst, mkT, hn2, optR]
        by_cases h3 : z = "either"
        · subst h3
          by_cases hn : r.length = 3
          · obtain ⟨a, b, c, rfl⟩ := len3 hn
            show _ = R.ok (optR (formL "either" [a, b, c])) S
            rw [eit_yes]
            cases hnum : [a, b, c].all numB with
            | true =>
              rw [eit_row hnum]
              simp at hnum
              simp [g23, h0, hl, hz, hx, hst, h4, mkT, hall, htp, hnum, dAll, liOf, lstOf, blsOf]
            | false =>
              rw [eit_row' hnum]
              have hnum2 : (numB a && (numB b && numB c)) = false := by simpa using hnum
              simp [g23, h0, hl, hz, hx, hst, h4, mkT, hall, htp, hnum2, dAll, liOf, lstOf, blsOf, optR]
          · show _ = R.ok (optR (formL "either" r)) S
            rw [eit_no hn]
            have hn2 : ¬ (r.length : Int) + 1 = 4 := by omega
            simp [g23, h0, hl, hz, hx, hst, h4, mkT, hn2, optR]
        have stp : ∀ q : Bool, z = Row.w q → endR (g23 (sem MM (k + 1)) ([v].map some ++ List.replicate (2 - [v].length) none) S) = .ok (optR (formX (.str z :: r))) S := fun q hq => by
          show _ = R.ok (optR (formL z r)) S
          have hw : (decide (z = "made") || decide (z = "asked")) = true := by
            subst hq
            cases q <;> rfl
          by_cases hn : r.length = 2
          · obtain ⟨n, p, rfl⟩ := len2 hn
            have hf : formL z [n, p] = stepO q n p := by rw [hq, stp_eq]
            rw [hf]
            have hx1 := hs.ix 1 at1
            have hx2 := hs.ix 2 at2
            have tn := hrt n (by simp)
            have tp := hrt p (by simp)
            have hnm : sem MM (k + 1) 22 [n] S = .ok (.bl (nameB n)) S := g_is_name_ok k tn.kd tn.str S
            have hsq := isi_seq (S := S) Rd.here tp.kd
            cases b1 : nameB n with
            | false =>
              rw [stp_row' (by rw [b1]; rfl)]
              rw [b1] at hnm
              simp [g23, h0, hl, hz, hx, hst, mkT, nin2, hw, h3, h4, hx1, hnm, optR]
            | true =>
              cases b2 : seqB p with
              | false =>
                rw [stp_row' (by rw [b1, b2]; rfl)]
                rw [b1] at hnm
                rw [b2] at hsq
                simp [g23, h0, hl, hz, hx, hst, mkT, nin2, hw, h3, h4, hx1, hx2, hnm, hsq, optR]
              | true =>
                rw [b1] at hnm
                rw [b2] at hsq
                have hpq : Sq S p (itemsD p) := Rd.here.sq b2
                have tps : Trs (itemsD p) := by
                  cases p with
                  | lst xs => exact tp.lst
                  | tup xs => exact tp.tup
                  | _ => cases b2
                have hal2 := all_cl (v := p) (S := S) (ρ := [some v, none]) (fe := bi2 dIx (vrb 0) (cst (.int 2))) (g := sem MM (k + 1) 21) (p := numB) 1 (by simp) (by simp [hx2]) hpq.rd tps.len fun x hx => g_is_int_ok k (tps.mem hx).kd S
                cases b3 : (itemsD p).all numB with
                | true =>
                  rw [stp_row b1 b2 b3, ← hq]
                  have hall2 : dAll [.lst ((itemsD p).map fun x => .bl (numB x))] S = .ok (.bl true) S := by
                    rw [all_bls, b3]
                  simp [g23, h0, hl, hz, hx, hst, mkT, nin2, hw, h3, h4, hx1, hx2, hnm, hsq, hal2, hall2, hpq.tp]
                | false =>
                  rw [stp_row' (by rw [b1, b2, b3]; rfl)]
                  have hall2 : dAll [.lst ((itemsD p).map fun x => .bl (numB x))] S = .ok (.bl false) S := by
                    rw [all_bls, b3]
                  simp [g23, h0, hl, hz, hx, hst, mkT, nin2, hw, h3, h4, hx1, hx2, hnm, hsq, hal2, hall2, optR]
          · have hf : formL z r = none := by rw [hq, stp_no hn]
            rw [hf]
            have hn2 : ¬ (r.length : Int) + 1 = 3 := by omega
            simp [g23, h0, hl, hz, hx, hst, mkT, nin2, hw, h3, h4, hn2, optR]
        by_cases h1 : z = "made"
        · exact stp false h1
        by_cases h2 : z = "asked"
        · exact stp true h2
        · show _ = R.ok (optR (formL z r)) S
          rw [oth_no h1 h2 h3 h4]
          simp [g23, h0, hl, hz, hx, hst, mkT, nin2, h1, h2, h3, h4, optR]
      | _ =>
        have hst : dIsi [_, .ty "str"] S = .ok (.bl false) S := hst
        simp [g23, h0, hl, hz, hx, hst, mkT, formX, optR]
/-! ## named rows -/
theorem map_natD (ps : List Nat) (S : Sto) : dList mkL [.tup (ps.map natD)] S = mkL (ps.map natD) S := rfl
theorem Row.sq (S : Sto) (r : Row) : Sq S r.d r.xs := .inr (.inl (Row.d_eq r))
theorem Row.ix0 (S : Sto) (r : Row) : dIx r.d (.int 0) S = .ok (.str r.hd) S := by
  cases r <;> rfl
theorem w_ne (q : Bool) : decide (Row.w q = "given") = false ∧ decide (Row.w q = "either") = false := by
  cases q <;> exact ⟨by decide, by decide⟩
theorem named_ok (k : Nat) (r : Row) (hz : r.nm.length ≤ 4096) (S : Sto) : sem MM (k + 1) 5 [r.d] S = .ok (.lst (r.nm.map natD)) S := by
  rw [s5, runF]
  have h0 := r.ix0 S
  cases r with
  | given i => simp [g5, h0, Row.hd, mkL, Row.nm]
  | either a b c =>
    have hs : dSl (Row.either a b c).d (some 1) none S = .ok (.tup ([a, b, c].map natD)) S := rfl
    simp [g5, h0, hs, Row.hd, mkL, Row.nm, dList, rdOf]
  | step q n ps =>
    have hx : dIx (Row.step q n ps).d (.int 2) S = .ok (.tup (ps.map natD)) S := rfl
    have hz : ps.length ≤ 16777216 := Nat.le_trans hz (by decide)
    simp [g5, h0, hx, w_ne q, Row.hd, mkL, Row.nm, dList, rdOf, hz]
theorem g_named_ok (k : Nat) (r : Row) (hz : r.nm.length ≤ 4096) (S : Sto) : sem MM (k + 1) 24 [r.d] S = .ok (.lst (r.nm.map natD)) S := by
  rw [s24, runF]
  have h0 := r.ix0 S
  cases r with
  | given i => simp [g24, h0, Row.hd, mkL, Row.nm]
  | either a b c =>
    have hs : dSl (Row.either a b c).d (some 1) none S = .ok (.tup ([a, b, c].map natD)) S := rfl
    simp [g24, h0, hs, Row.hd, mkL, Row.nm, dList, rdOf]
  | step q n ps =>
    have hx : dIx (Row.step q n ps).d (.int 2) S = .ok (.tup (ps.map natD)) S := rfl
    have hz : ps.length ≤ 16777216 := Nat.le_trans hz (by decide)
    simp [g24, h0, hx, w_ne q, Row.hd, mkL, Row.nm, dList, rdOf, hz]
end K08
namespace K08
open PySem PySem.Spec PyProof.Rows L2 Ev
/-! ## comparisons of lists -/
theorem pyRs_map {α : Type} (f : Nat → Option PyData) (g : α → D) (p : α → PyData) (h : ∀ a, pyR f (g a) = some (p a)) : ∀ xs : List α, pyRs f (xs.map g) = some (xs.map p)
  | [] => rfl
  | x :: xs => by
    show ((pyR f (g x)).bind fun y => (pyRs f (xs.map g)).map fun ys => y :: ys) = _
    rw [h x, pyRs_map f g p h xs]
    rfl
theorem lay_map {α : Type} (p : α → PyData) : ∀ xs : List α, (∀ a, a ∈ xs → (p a).canLay0 = true) → PyData.canLayAll0 (xs.map p) = true
  | [], _ => rfl
  | x :: xs, h => by
    show ((p x).canLay0 && PyData.canLayAll0 (xs.map p)) = true
    rw [h x List.mem_cons_self, lay_map p xs fun a ha => h a (List.mem_cons_of_mem _ ha)]
    rfl
theorem dep_map {α : Type} (p : α → PyData) (n : Nat) : ∀ xs : List α, (∀ a, a ∈ xs → (p a).depth ≤ n) → PyData.depthAll (xs.map p) ≤ n
  | [], _ => Nat.zero_le _
  | x :: xs, h => by
    have h1 := h x List.mem_cons_self
    have h2 := dep_map p n xs fun a ha => h a (List.mem_cons_of_mem _ ha)
    show max (p x).depth (PyData.depthAll (xs.map p)) ≤ n
    omega
theorem shp_list {α : Type} (p : α → PyData) (n : Nat) (hn : n < 64) (xs : List α) (h1 : ∀ a, a ∈ xs → (p a).canLay0 = true) (h2 : ∀ a, a ∈ xs → (p a).depth ≤ n) : SeqAt.shaped (.list (xs.map p)) = true := by
  unfold SeqAt.shaped
  rw [Bool.and_eq_true_iff, decide_eq_true_iff]
  refine ⟨lay_map p xs h1, ?_⟩
  have := dep_map p n xs h2
  show PyData.depthAll (xs.map p) + 1 ≤ 64
  omega
theorem nin_strs {α : Type} (neg : Bool) (z : Str) (g : α → Str) (xs : List α) (hz : PyData.strOk z = true) (h : ∀ a, a ∈ xs → PyData.strOk (g a) = true) (S : Sto) :
    dIn neg (.str z) (.lst (xs.map fun a => .str (g a))) S = .ok (.bl (if neg = true then !xs.any (fun a => decide (g a = z)) else xs.any (fun a => decide (g a = z)))) S := by
  show (match py S (.str z), py S (.lst (xs.map fun a => .str (g a))) with
    | some x, some (.list ys) => if SeqAt.shaped x = true ∧ SeqAt.shaped (.list ys) = true then R.ok (D.bl (if neg then !ys.any (fun z => PyData.eqv z x) else ys.any (fun z => PyData.eqv z x))) S else .bad
    | _, _ => .bad) = _
  have e : py S (.lst (xs.map fun a => .str (g a))) = some (.list (xs.map fun a => .str (g a))) := by
    show (pyRs (pyM S 3) (xs.map fun a => .str (g a))).map PyData.list = _
    rw [pyRs_map _ _ (fun a => PyData.str (g a)) (fun a => rfl)]
    rfl
  have hs := shp_list (fun a => PyData.str (g a)) 0 (by decide) xs h (fun a _ => Nat.le_refl 0)
  have hz2 : SeqAt.shaped (.str z) = true := by
    unfold SeqAt.shaped
    rw [Bool.and_eq_true_iff]
    exact ⟨hz, rfl⟩
  rw [e]
  show (if SeqAt.shaped (.str z) = true ∧ SeqAt.shaped (.list (xs.map fun a => PyData.str (g a))) = true then R.ok (D.bl (if neg then !(xs.map fun a => PyData.str (g a)).any (fun y => PyData.eqv y (.str z)) else (xs.map fun a => PyData.str (g a)).any (fun y => PyData.eqv y (.str z)))) S else .bad) = _
  rw [if_pos ⟨hz2, hs⟩, List.any_map]
  rfl
theorem eqv_bls : ∀ bs cs : List Bool, PyData.eqvAll (bs.map PyData.bool) (cs.map PyData.bool) = decide (bs = cs)
  | [], [] => rfl
  | [], _ :: _ => rfl
  | _ :: _, [] => rfl
  | b :: bs, c :: cs => by
    show (PyData.eqv (.bool b) (.bool c) && PyData.eqvAll (bs.map PyData.bool) (cs.map PyData.bool)) = _
    rw [eqv_bls bs cs]
    show ((b == c) && decide (bs = cs)) = _
    rw [Bool.eq_iff_iff]
    simp
theorem ne_bls (bs cs : List Bool) (S : Sto) : dNe (.lst (bs.map .bl)) (.lst (cs.map .bl)) S = .ok (.bl (!decide (bs = cs))) S := by
  have e : ∀ bs : List Bool, py S (.lst (bs.map D.bl)) = some (.list (bs.map PyData.bool)) := fun bs => by
    show (pyRs (pyM S 3) (bs.map D.bl)).map PyData.list = _
    rw [pyRs_map _ _ PyData.bool (fun a => rfl)]
    rfl
  have hs : ∀ bs : List Bool, SeqAt.shaped (.list (bs.map PyData.bool)) = true := fun bs => shp_list PyData.bool 0 (by decide) bs (fun _ _ => rfl) (fun _ _ => Nat.le_refl 0)
  show (match py S (.lst (bs.map D.bl)), py S (.lst (cs.map D.bl)) with
    | some x, some y => if SeqAt.shaped x = true ∧ SeqAt.shaped y = true then R.ok (D.bl (!PyData.eqv x y)) S else .bad
    | _, _ => .bad) = _
  rw [e, e]
  show (if SeqAt.shaped (.list (bs.map PyData.bool)) = true ∧ SeqAt.shaped (.list (cs.map PyData.bool)) = true then R.ok (D.bl (!PyData.eqvAll (bs.map PyData.bool) (cs.map PyData.bool))) S else .bad) = _
  rw [if_pos ⟨hs bs, hs cs⟩, eqv_bls]
/-! ## is_kind, row_fault, _law_g_why -/
theorem rows_at {S : Sto} {v : D} {rows : List Row} (h : Sq S v (rows.map Row.d)) {i : Nat} {r : Row} (e : rows[i]? = some r) : dIx v (natD i) S = .ok r.d S :=
  h.ix (i : Int) (atN (by rw [List.getElem?_map, e]; rfl))
theorem so_ask : PyData.strOk "asked" = true := by decide +kernel
theorem hd_ok (r : Row) : PyData.strOk r.hd = true := by
  cases r with
  | given _ => exact (by decide +kernel : PyData.strOk "given" = true)
  | either _ _ _ => exact (by decide +kernel : PyData.strOk "either" = true)
  | step q _ _ => cases q <;> first | exact (by decide +kernel : PyData.strOk "made" = true) | exact (by decide +kernel : PyData.strOk "asked" = true)
@[simp] theorem hd_given (i : Nat) : (Row.given i).hd = "given" := rfl
@[simp] theorem hd_either (a b c : Nat) : (Row.either a b c).hd = "either" := rfl
@[simp] theorem hd_step (q : Bool) (n : Str) (ps : List Nat) : (Row.step q n ps).hd = Row.w q := rfl
theorem hd_ask (r : Row) : decide (r.hd = "asked") = r.asked := by
  cases r with
  | given _ => rfl
  | either _ _ _ => rfl
  | step q _ _ => cases q <;> rfl
def hdAt (rows : List Row) (i : Nat) : Str := match rows[i]? with
  | some r => r.hd
  | none => ""
theorem hdAt_ask (rows : List Row) (i : Nat) : decide (hdAt rows i = "asked") = askAt rows i := by
  unfold hdAt askAt
  cases rows[i]? with
  | none => rfl
  | some r => exact hd_ask r
theorem hdAt_ok (rows : List Row) (i : Nat) : PyData.strOk (hdAt rows i) = true := by
  unfold hdAt
  cases rows[i]? with
  | none => exact (by decide +kernel : PyData.strOk "" = true)
  | some r => exact hd_ok r
/-- [f(one) for one in xs] -/
theorem lc_nat {v : D} {ps : List Nat} {i : Nat} {ρ : Ev.Env} {S : Sto} {fe f : Ex} (he : fe ρ S = .ok v S) (h : Sq S v (ps.map natD)) (hz : ps.length ≤ 4096) (fb : Nat → D) (hf : ∀ p, p ∈ ps → f ((wipeD ρ [i]).set i (some (natD p))) S = .ok (fb p) S) :
    lcN mkL [i] (src1 srSq fe) (bnN i) yes f ρ S = .ok (.lst (ps.map fb)) S := by
  have e := lc_pure (f := f) he h.rd (by rw [List.length_map]; exact Nat.le_trans hz (by decide)) (fun d => match d with | .int j => fb j.toNat | _ => .non) fun x hx => by
    obtain ⟨p, hp, rfl⟩ := List.mem_map.mp hx
    rw [hf p hp]
    show _ = R.ok (fb (p : Int).toNat) S
    rw [Int.toNat_natCast]
  rw [e, List.map_map]
  have g : ((fun d => match d with | D.int j => fb j.toNat | _ => D.non) ∘ natD) = fb := by
    funext p
    show fb (p : Int).toNat = _
    rw [Int.toNat_natCast]
  rw [g]
theorem lc_hd {v w : D} {rows : List Row} {ps : List Nat} {i : Nat} {ρ : Ev.Env} {S : Sto} {fe fv : Ex} (he : fe ρ S = .ok v S) (h : Sq S v (ps.map natD)) (hz : ps.length ≤ 4096) (hi : i < ρ.length) (hw : ∀ d, fv ((wipeD ρ [i]).set i d) S = .ok w S) (hr : Sq S w (rows.map Row.d)) (hp : ∀ p, p ∈ ps → p < rows.length) :
    lcN mkL [i] (src1 srSq fe) (bnN i) yes (bi2 dIx (bi2 dIx fv (vrb i)) (cst (.int 0))) ρ S = .ok (.lst (ps.map fun p => .str (hdAt rows p))) S :=
  lc_nat he h hz _ fun p hpm => by
    have e : (List.set ρ i (some (natD p)))[i]? = some (some (natD p)) := List.getElem?_set_self hi
    have e2 : rows[p]? = some (rows[p]'(hp p hpm)) := List.getElem?_eq_getElem (hp p hpm)
    have hw := hw (some (natD p))
    simp only [wipeD, List.set_set] at hw ⊢
    simp [hw, e, rows_at hr e2, Row.ix0, hdAt, e2]
theorem bad_given (rows : List Row) (i : Nat) : badK rows (.given i) = false := rfl
theorem is_kind_ok (k : Nat) {S : Sto} {v : D} {rows : List Row} (h : Sq S v (rows.map Row.d)) (r : Row) (hz : r.nm.length ≤ 4096) (hp : ∀ p, p ∈ r.nm → p < rows.length) : sem MM (k + 2) 6 [v, r.d] S = .ok (.bl (!badK rows r)) S := by
  rw [s6, runF]
  have h0 := r.ix0 S
  have hn : sem MM (k + 1) 5 [r.d] S = .ok (.lst (r.nm.map natD)) S := named_ok k r hz S
  have hl := lc_hd (v := .lst (r.nm.map natD)) (w := v) (rows := rows) (ps := r.nm) (i := 2) (ρ := [some v, some r.d, none]) (S := S) (fe := clP 1 (sem MM (k + 1) 5) (arC (vrb 1) arN)) (fv := vrb 0) (by simp [hn]) (.inl rfl) hz (by simp) (fun d => by simp [wipeD]) h hp
  have hnot := nin_strs (α := Nat) true "asked" (hdAt rows) r.nm so_ask (fun a _ => hdAt_ok rows a) S
  simp only [hdAt_ask, if_true] at hnot
  cases r with
  | given i =>
    have hnot : dIn true (.str "asked") (.lst []) S = .ok (.bl true) S := hnot
    have e1 : (Row.given i).nm = [] := rfl
    rw [e1] at hl
    simp [g6, h0, hl, hnot, badK]
  | either a b c =>
    have ha : rows[a]? = some (rows[a]'(hp a (by simp [Row.nm]))) := List.getElem?_eq_getElem _
    have hx : dIx (Row.either a b c).d (.int 1) S = .ok (natD a) S := rfl
    have hsl : dSl (Row.either a b c).d (some 2) none S = .ok (.tup ([b, c].map natD)) S := rfl
    have hl2 := lc_hd (v := .tup ([b, c].map natD)) (w := v) (rows := rows) (ps := [b, c]) (i := 2) (ρ := [some v, some (Row.either a b c).d, none]) (S := S) (fe := slE (vrb 1) (opS (cst (.int 2))) opN) (fv := vrb 0) (by simp [hsl]) (.inr (.inl rfl)) (by simp) (by simp) (fun d => by simp [wipeD]) h (fun p hm => hp p (by simp [Row.nm] at hm ⊢; exact .inr hm))
    have hnot2 := nin_strs (α := Nat) true "asked" (hdAt rows) [b, c] so_ask (fun a _ => hdAt_ok rows a) S
    simp only [hdAt_ask, if_true] at hnot2
    have haa : askAt rows a = (rows[a]'(hp a (by simp [Row.nm]))).asked := by
      unfold askAt
      rw [ha]
    cases hb : (rows[a]'(hp a (by simp [Row.nm]))).asked with
    | false => simp [g6, h0, hx, rows_at h ha, Row.ix0, hd_ask, hb, badK, haa]
    | true =>
      simp only [List.map_cons, List.map_nil, List.any_cons, List.any_nil, Bool.or_false] at hnot2 hl2
      simp [g6, h0, hx, rows_at h ha, Row.ix0, hd_ask, hb, badK, haa, hl2, hnot2]
  | step q n ps =>
    have e1 : (Row.step q n ps).nm = ps := rfl
    rw [e1] at hl hnot
    have e2 := (w_ne q).2
    simp [g6, h0, e2, hl, hnot, badK]
theorem cl_nat {ρ : Ev.Env} {i : Nat} {p : Nat} (hi : i < ρ.length) : (List.set ρ i (some (natD p)))[i]? = some (some (natD p)) := List.getElem?_set_self hi
theorem isNon_row (r : Row) : Ev.isNon r.d = false := by cases r <;> rfl
theorem Row.ix_eit (a b c : Nat) (S : Sto) : dIx (Row.either a b c).d (.int 2) S = .ok (natD b) S ∧ dIx (Row.either a b c).d (.int 3) S = .ok (natD c) S := ⟨rfl, rfl⟩
theorem eq_nat (a b : Nat) (S : Sto) : dEq (natD a) (natD b) S = .ok (.bl (a == b)) S := by
  show dEq (.int a) (.int b) S = _
  rw [eq_int]
  congr 2
  rw [Bool.eq_iff_iff, decide_eq_true_iff, beq_iff_eq]
  omega
theorem lt_nat (a : Nat) (n : Nat) (S : Sto) : dCo .Lt (natD a) (.int n) S = .ok (.bl (!decide (n ≤ a))) S := by
  show R.ok (D.bl (decide ((a : Int) < (n : Int)))) S = _
  congr 2
  rw [Bool.eq_iff_iff]
  simp
theorem ge_nat (a : Nat) (n : Nat) (S : Sto) : dCo .GtE (natD a) (.int n) S = .ok (.bl (decide (n ≤ a))) S := by
  show R.ok (D.bl (decide ((n : Int) ≤ (a : Int)))) S = _
  congr 2
  rw [Bool.eq_iff_iff]
  simp
theorem nm_len {d : D} {r : Row} (h : Tr d) (e : formR d = some r) : r.nm.length ≤ 4096 := Row.good_len (form_good h e)
theorem row_fault_ok (k : Nat) {S : Sto} {v u d : D} {rows : List Row} (h : Sq S v (rows.map Row.d)) (hu : Rd S u d) (t : Tr d) : sem MM (k + 4) 7 [v, u] S = .ok (optS (whyO rows (formR d))) S := by
  rw [s7, runF]
  have hr : sem MM (k + 3) 4 [u] S = .ok (optR (formR d)) S := as_row_ok k hu t
  cases hf : formR d with
  | none =>
    rw [hf] at hr
    simp [g7, hr, optR, Ev.isNon, whyO, optS]
  | some r =>
    rw [hf] at hr
    have hr : sem MM (k + 3) 4 [u] S = .ok r.d S := hr
    have hz := nm_len t hf
    have hn : sem MM (k + 3) 5 [r.d] S = .ok (.lst (r.nm.map natD)) S := named_ok (k + 2) r hz S
    have hlen : dLen [v] S = .ok (.int rows.length) S := by
      rw [h.len, List.length_map]
    have hl := lc_nat (v := .lst (r.nm.map natD)) (ps := r.nm) (i := 3) (ρ := [some v, some u, some r.d, none]) (S := S) (fe := clP 1 (sem MM (k + 3) 5) (arC (vrb 2) arN)) (f := bi2 (dCo .Lt) (vrb 3) (ofL dLen (arC (vrb 0) arN))) (by simp [hn]) (.inl rfl) hz (fun p => .bl (!decide (rows.length ≤ p))) (fun p _ => by simp [wipeD, hlen, lt_nat])
    have ha := all_bls (fun p => !decide (rows.length ≤ p)) r.nm S
    show _ = R.ok (optS (why rows r)) S
    unfold why
    cases hany : r.nm.any (fun i => decide (rows.length ≤ i)) with
    | true =>
      have e : r.nm.all (fun p => !decide (rows.length ≤ p)) = false := by
        rw [← List.not_any_eq_all_not, hany]
        rfl
      rw [e] at ha
      simp [g7, hr, isNon_row, hl, ha, optS]
    | false =>
      have e : r.nm.all (fun p => !decide (rows.length ≤ p)) = true := by
        rw [← List.not_any_eq_all_not, hany]
        rfl
      have hp : ∀ p, p ∈ r.nm → p < rows.length := fun p hpm => by
        have := List.all_eq_true.mp e p hpm
        simpa using this
      rw [e] at ha
      have hk : sem MM (k + 3) 6 [v, r.d] S = .ok (.bl (!badK rows r)) S := is_kind_ok (k + 1) h r hz hp
      cases hb : badK rows r with
      | true =>
        rw [hb] at hk
        simp [g7, hr, isNon_row, hl, ha, hk, optS]
      | false =>
        rw [hb] at hk
        have h0 := r.ix0 S
        cases r with
        | given i => simp [g7, hr, isNon_row, hl, ha, hk, h0, alikeR, optS]
        | either a b c =>
          obtain ⟨x1, x2⟩ := Row.ix_eit a b c S
          cases hbc : (b == c) with
          | true => simp [g7, hr, isNon_row, hl, ha, hk, h0, alikeR, optS, x1, x2, eq_nat, hbc]
          | false => simp [g7, hr, isNon_row, hl, ha, hk, h0, alikeR, optS, x1, x2, eq_nat, hbc]
        | step q n ps => simp [g7, hr, isNon_row, hl, ha, hk, h0, alikeR, optS, (w_ne q).2]
end K08
namespace K08
open PySem PySem.Spec PyProof.Rows L2 Ev
theorem mul_lst (xs : List D) (j : Int) (h : -(2 ^ 63) ≤ j ∧ j < 2 ^ 63 ∧ xs.length * j.toNat ≤ 16777216) (S : Sto) : dMul (.lst xs) (.int j) S = .ok (.lst (List.replicate j.toNat xs).flatten) S := by
  unfold dMul
  simp only [lstOf]
  rw [if_pos h]
theorem rep_flat (n : Nat) (d : D) : (List.replicate n [d]).flatten = List.replicate n d := by
  induction n with
  | zero => rfl
  | succ n ih => rw [List.replicate_succ, List.flatten_cons, ih, List.replicate_succ]; rfl
theorem mul_bls (n : Nat) (hn : n ≤ 4096) (S : Sto) : dMul (.lst [.bl false]) (.int n) S = .ok (.lst ((List.replicate n false).map .bl)) S := by
  have h : -(2 ^ 63) ≤ (n : Int) ∧ (n : Int) < 2 ^ 63 ∧ [D.bl false].length * (n : Int).toNat ≤ 16777216 := by
    rw [Int.toNat_natCast]
    refine ⟨by omega, by omega, ?_⟩
    simp only [List.length_cons, List.length_nil]
    omega
  rw [mul_lst _ _ h, Int.toNat_natCast, rep_flat, List.map_replicate]
theorem all_no (f : Nat → Bool) : ∀ ps : List Nat, decide (ps.map f = List.replicate ps.length false) = !ps.any f
  | [] => rfl
  | p :: ps => by
    rw [List.map_cons, List.length_cons, List.replicate_succ, List.any_cons, Bool.not_or, ← all_no f ps, Bool.eq_iff_iff]
    simp
theorem g_why_ok (k : Nat) {S : Sto} {v u d : D} {rows : List Row} (h : Sq S v (rows.map Row.d)) (hu : Rd S u d) (t : Tr d) : sem MM (k + 3) 25 [v, u] S = .ok (optS (whyO rows (formR d))) S := by
  rw [s25, runF]
  have hr : sem MM (k + 2) 23 [u] S = .ok (optR (formR d)) S := g_form_ok k hu t
  cases hf : formR d with
  | none =>
    rw [hf] at hr
    simp [g25, hr, optR, Ev.isNon, whyO, optS]
  | some r =>
    rw [hf] at hr
    have hr : sem MM (k + 2) 23 [u] S = .ok r.d S := hr
    have hz := nm_len t hf
    have hn : sem MM (k + 2) 24 [r.d] S = .ok (.lst (r.nm.map natD)) S := g_named_ok (k + 1) r hz S
    have hlen : dLen [v] S = .ok (.int rows.length) S := by
      rw [h.len, List.length_map]
    have hl := lc_nat (v := .lst (r.nm.map natD)) (ps := r.nm) (i := 5) (ρ := [some v, some u, some r.d, some (.lst (r.nm.map natD)), none, none]) (S := S) (fe := vrb 3) (f := bi2 (dCo .GtE) (vrb 5) (ofL dLen (arC (vrb 0) arN))) (by simp) (.inl rfl) hz (fun p => .bl (decide (rows.length ≤ p))) (fun p _ => by simp [wipeD, hlen, ge_nat])
    have ha := any_bls (fun p => decide (rows.length ≤ p)) r.nm S
    show _ = R.ok (optS (why rows r)) S
    unfold why
    cases hany : r.nm.any (fun i => decide (rows.length ≤ i)) with
    | true =>
      rw [hany] at ha
      simp [g25, hr, isNon_row, hn, hl, ha, optS]
    | false =>
      have hp : ∀ p, p ∈ r.nm → p < rows.length := fun p hpm => by
        have := List.any_eq_false.mp hany p hpm
        simpa using this
      rw [hany] at ha
      have hl2 := lc_nat (v := .lst (r.nm.map natD)) (ps := r.nm) (i := 5) (ρ := [some v, some u, some r.d, some (.lst (r.nm.map natD)), none, none]) (S := S) (fe := vrb 3) (f := bi2 dEq (bi2 dIx (bi2 dIx (vrb 0) (vrb 5)) (cst (.int 0))) (cst (.str "asked"))) (by simp) (.inl rfl) hz (fun p => .bl (askAt rows p)) (fun p hpm => by
        have e2 : rows[p]? = some (rows[p]'(hp p hpm)) := List.getElem?_eq_getElem (hp p hpm)
        have e3 : askAt rows p = (rows[p]'(hp p hpm)).asked := by
          unfold askAt
          rw [e2]
        simp [wipeD, rows_at h e2, Row.ix0, hd_ask, e3])
      have hln : dLen [.lst (r.nm.map natD)] S = .ok (.int r.nm.length) S := by
        show R.ok (D.int ((r.nm.map natD).length : Nat)) S = _
        rw [List.length_map]
      have h0 := r.ix0 S
      cases r with
      | given i =>
        have e1 : (Row.given i).nm = [] := rfl
        rw [e1] at hn hl hl2 ha hln
        have hm := mul_bls 0 (Nat.zero_le _) S
        have hd := ne_bls [] [] S
        have e2 : dAny [.lst []] S = .ok (.bl false) S := rfl
        have e3 : dLen [.lst []] S = .ok (.int 0) S := rfl
        have e4 : dMul (.lst [.bl false]) (.int 0) S = .ok (.lst []) S := hm
        have e5 : dNe (.lst []) (.lst []) S = .ok (.bl false) S := hd
        simp at hl2 hl
        simp [g25, hr, isNon_row, hn, hl, hl2, h0, mkL, badK, alikeR, optS, e2, e3, e4, e5]
      | either a b c =>
        have hd := ne_bls [askAt rows a, askAt rows b, askAt rows c] [true, false, false] S
        have e1 : (Row.either a b c).nm = [a, b, c] := rfl
        rw [e1] at hn hl hl2 ha hln
        simp only [List.map_cons, List.map_nil] at hn hl hl2 ha hln hd
        have x1 : dIx (.lst [natD a, natD b, natD c]) (.int 1) S = .ok (natD b) S := rfl
        have x2 : dIx (.lst [natD a, natD b, natD c]) (.int 2) S = .ok (natD c) S := rfl
        have e2 : decide ([askAt rows a, askAt rows b, askAt rows c] = [true, false, false]) = (askAt rows a && !askAt rows b && !askAt rows c) := by
          cases askAt rows a <;> cases askAt rows b <;> cases askAt rows c <;> rfl
        rw [e2] at hd
        cases hb : (askAt rows a && !askAt rows b && !askAt rows c) with
        | false =>
          rw [hb] at hd
          simp [g25, hr, isNon_row, hn, hl, ha, hl2, h0, mkL, badK, hb, hd, optS]
        | true =>
          rw [hb] at hd
          cases hbc : (b == c) with
          | true => simp [g25, hr, isNon_row, hn, hl, ha, hl2, h0, mkL, badK, hb, hd, alikeR, optS, x1, x2, eq_nat, hbc]
          | false => simp [g25, hr, isNon_row, hn, hl, ha, hl2, h0, mkL, badK, hb, hd, alikeR, optS, x1, x2, eq_nat, hbc]
      | step q n ps =>
        have hd := ne_bls (ps.map (askAt rows)) (List.replicate ps.length false) S
        rw [all_no, List.map_map] at hd
        have e1 : (Row.step q n ps).nm = ps := rfl
        rw [e1] at hn hl hl2 ha hln hz
        have hm := mul_bls ps.length hz S
        have hd : dNe (.lst (ps.map fun p => .bl (askAt rows p))) (.lst ((List.replicate ps.length false).map .bl)) S = .ok (.bl (!!ps.any (askAt rows))) S := hd
        rw [Bool.not_not] at hd
        have hk : bi2 dMul (ofL mkL (arC (cst (.bl false)) arN)) (ofL dLen (arC (vrb 3) arN)) [some v, some u, some (Row.step q n ps).d, some (.lst (ps.map natD)), some (.lst (ps.map fun p => .bl (askAt rows p))), none] S = .ok (.lst ((List.replicate ps.length false).map .bl)) S := by
          have hm1 : ofL mkL (arC (cst (.bl false)) arN) [some v, some u, some (Row.step q n ps).d, some (.lst (ps.map natD)), some (.lst (ps.map fun p => .bl (askAt rows p))), none] S = .ok (.lst [.bl false]) S := rfl
          have hm2 : ofL dLen (arC (vrb 3) arN) [some v, some u, some (Row.step q n ps).d, some (.lst (ps.map natD)), some (.lst (ps.map fun p => .bl (askAt rows p))), none] S = .ok (.int ps.length) S := hln
          rw [a_bi2, hm1, R.bind_ok, a_kb, hm2, R.bind_ok, hm]
        have hwE : dEq (.str (Row.w q)) (.str "either") S = .ok (.bl false) S := by rw [eq_str, (w_ne q).2]
        unfold g25
        generalize bi2 dMul (ofL mkL (arC (cst (.bl false)) arN)) (ofL dLen (arC (vrb 3) arN)) = fm at hk ⊢
        generalize (List.replicate ps.length false).map D.bl = R0 at hk hd
        cases hb : ps.any (askAt rows) with
        | true =>
          rw [hb] at hd
          simp [-eq_str, hwE, hr, isNon_row, hn, hl, ha, hl2, h0, hk, badK, hb, hd, optS]
        | false =>
          rw [hb] at hd
          simp [-eq_str, hwE, hr, isNon_row, hn, hl, ha, hl2, h0, hk, badK, hb, hd, alikeR, optS]
/-! ## rows among rows -/
def pyR' : Row → PyData
  | .given i => .tuple [.str "given", .int i]
  | .either a b c => .tuple [.str "either", .int a, .int b, .int c]
  | .step q n ps => .tuple [.str (Row.w q), .str n, .tuple (ps.map fun p => .int (p : Nat))]
theorem py_row (f : Nat → Option PyData) (r : Row) : pyR f r.d = some (pyR' r) := by
  cases r with
  | given i => rfl
  | either a b c => rfl
  | step q n ps =>
    have e := pyRs_map f natD (fun p => PyData.int (p : Nat)) (fun a => rfl) ps
    show Option.map PyData.tuple ((some (PyData.str (Row.w q))).bind fun x => Option.map (fun xs => x :: xs) ((some (PyData.str n)).bind fun x => Option.map (fun xs => x :: xs) ((Option.map PyData.tuple (pyRs f (ps.map natD))).bind fun x => Option.map (fun xs => x :: xs) (some [])))) = _
    rw [e]
    rfl
theorem eqv_ints : ∀ ps qs : List Nat, PyData.eqvAll (ps.map fun p => PyData.int (p : Nat)) (qs.map fun p => PyData.int (p : Nat)) = (ps == qs)
  | [], [] => rfl
  | [], _ :: _ => rfl
  | _ :: _, [] => rfl
  | p :: ps, q :: qs => by
    show (PyData.eqv (.int (p : Nat)) (.int (q : Nat)) && PyData.eqvAll (ps.map fun p => PyData.int (p : Nat)) (qs.map fun p => PyData.int (p : Nat))) = _
    rw [eqv_ints ps qs]
    show (((p : Int) == (q : Int)) && (ps == qs)) = ((p == q) && (ps == qs))
    congr 1
    rw [Bool.eq_iff_iff, beq_iff_eq, beq_iff_eq]
    omega
theorem w_inj (q r : Bool) : ((Row.w q) == (Row.w r)) = (q == r) := by
  cases q <;> cases r <;> decide
theorem bq_ge : (("given" : Str) == "either") = false := by decide
theorem bq_eg : (("either" : Str) == "given") = false := by decide
theorem bq_gw (q : Bool) : (("given" : Str) == Row.w q) = false := by cases q <;> decide
theorem bq_ew (q : Bool) : (("either" : Str) == Row.w q) = false := by cases q <;> decide
theorem bq_wg (q : Bool) : (Row.w q == ("given" : Str)) = false := by cases q <;> decide
theorem bq_we (q : Bool) : (Row.w q == ("either" : Str)) = false := by cases q <;> decide
theorem eqv_row (a b : Row) : PyData.eqv (pyR' a) (pyR' b) = decide (a = b) := by
  have e : decide (a = b) = a.beq b := by
    rw [Bool.eq_iff_iff, decide_eq_true_iff, Row.beq_iff]
  have iq : ∀ p q : Nat, ((p : Int) == (q : Int)) = (p == q) := fun p q => by
    rw [Bool.eq_iff_iff, beq_iff_eq, beq_iff_eq]
    omega
  have sq : ∀ n m : Str, (n == m) = decide (n = m) := fun n m => by
    rw [Bool.eq_iff_iff, beq_iff_eq, decide_eq_true_iff]
  have wq : ∀ q r : Bool, decide (Row.w q = Row.w r) = (q == r) := fun q r => by cases q <;> cases r <;> decide
  rw [e]
  cases a <;> cases b <;> simp only [pyR', PyData.eqv, PyData.eqvAll, Row.beq, eqv_ints, w_inj, iq, bq_ge, bq_eg, bq_gw, bq_ew, bq_wg, bq_we, Bool.and_true, Bool.true_and, Bool.false_and, Bool.and_false, BEq.rfl, sq, wq, Bool.and_assoc]
end K08
namespace K08
open PySem PySem.Spec PyProof.Rows L2 Ev
/-! ## a row among rows -/
theorem row_lay {r : Row} (h : r.good = true) : (pyR' r).canLay0 = true := by
  cases r with
  | given i => exact (by decide +kernel : (PyData.strOk "given" && (true && true)) = true)
  | either a b c => exact (by decide +kernel : (PyData.strOk "either" && (true && (true && (true && true)))) = true)
  | step q n ps =>
    have e := lay_map (fun p : Nat => PyData.int p) ps (fun _ _ => rfl)
    have e2 := (Row.good_step h).2.1
    have e3 : PyData.strOk (Row.w q) = true := by
      cases q <;> decide +kernel
    show (PyData.strOk (Row.w q) && (PyData.strOk n && (PyData.canLayAll0 (ps.map fun p => PyData.int (p : Nat)) && true))) = true
    rw [e, e2, e3]
    rfl
theorem row_dep (r : Row) : (pyR' r).depth ≤ 2 := by
  cases r with
  | given i => exact (by decide : (1 : Nat) ≤ 2)
  | either a b c => exact (by decide : (1 : Nat) ≤ 2)
  | step q n ps =>
    have e := dep_map (fun p : Nat => PyData.int p) 0 ps (fun _ _ => Nat.le_refl 0)
    show max 0 (max 0 (max (PyData.depthAll (ps.map fun p => PyData.int (p : Nat)) + 1) 0)) + 1 ≤ 2
    omega
theorem row_shp {r : Row} (h : r.good = true) : SeqAt.shaped (pyR' r) = true := by
  unfold SeqAt.shaped
  rw [Bool.and_eq_true_iff, decide_eq_true_iff]
  exact ⟨row_lay h, Nat.le_trans (row_dep r) (by decide)⟩
def RowsOk (rows : List Row) : Prop := ∀ r, r ∈ rows → r.good = true
theorem rows_shp {rows : List Row} (h : RowsOk rows) : SeqAt.shaped (.list (rows.map pyR')) = true := shp_list pyR' 2 (by decide) rows (fun a ha => row_lay (h a ha)) (fun a _ => row_dep a)
/-- a list of rows: the tree, or a cell -/
def Rw (S : Sto) (v : D) (rows : List Row) : Prop := v = .lst (rows.map Row.d) ∨ ∃ c, v = .m c ∧ S[c]? = some (.lst (rows.map Row.d))
theorem Rw.sq {S : Sto} {v : D} {rows : List Row} (h : Rw S v rows) : Sq S v (rows.map Row.d) := h.elim .inl fun h => .inr (.inr h)
theorem Rw.py {S : Sto} {v : D} {rows : List Row} (h : Rw S v rows) : py S v = some (.list (rows.map pyR')) := by
  rcases h with rfl | ⟨c, rfl, e⟩
  · show (pyRs (pyM S 3) (rows.map Row.d)).map PyData.list = _
    rw [pyRs_map _ Row.d pyR' (fun a => py_row _ a)]
    rfl
  · show pyM S 3 c = _
    unfold pyM
    rw [e]
    show (pyRs (pyM S 2) (rows.map Row.d)).map PyData.list = _
    rw [pyRs_map _ Row.d pyR' (fun a => py_row _ a)]
    rfl
theorem any_eqv (rows : List Row) (r : Row) : (rows.map pyR').any (fun y => PyData.eqv y (pyR' r)) = decide (r ∈ rows) := by
  rw [List.any_map, Bool.eq_iff_iff, List.any_eq_true, decide_eq_true_iff]
  constructor
  · rintro ⟨x, hx, e⟩
    have e : PyData.eqv (pyR' x) (pyR' r) = true := e
    rw [eqv_row, decide_eq_true_iff] at e
    exact e ▸ hx
  · intro h
    refine ⟨r, h, ?_⟩
    show PyData.eqv (pyR' r) (pyR' r) = true
    rw [eqv_row, decide_eq_true_iff]
theorem in_rows (neg : Bool) {S : Sto} {v : D} {rows : List Row} (h : Rw S v rows) (ho : RowsOk rows) {r : Row} (hr : r.good = true) : dIn neg r.d v S = .ok (.bl (if neg = true then !decide (r ∈ rows) else decide (r ∈ rows))) S := by
  have e1 : py S r.d = some (pyR' r) := py_row _ r
  have e2 := h.py
  have e : dIn neg r.d v S = (match py S r.d, py S v with
    | some x, some (.list ys) => if SeqAt.shaped x = true ∧ SeqAt.shaped (.list ys) = true then .ok (.bl (if neg then !ys.any (fun z => PyData.eqv z x) else ys.any (fun z => PyData.eqv z x))) S else .bad
    | _, _ => .bad) := by
    rw [Row.d_eq]
    rcases h with rfl | ⟨c, rfl, _⟩ <;> rfl
  rw [e, e1, e2]
  simp only []
  rw [if_pos ⟨row_shp hr, rows_shp ho⟩, any_eqv]
theorem firstD_idx (r : Row) : ∀ (rows : List Row) (i : Nat), r ∈ rows → firstD (pyR' r) (rows.map pyR') i = some (i + rows.idxOf r)
  | x :: rows, i, h => by
    show (if PyData.eqv (pyR' x) (pyR' r) = true then some i else firstD (pyR' r) (rows.map pyR') (i + 1)) = _
    rw [eqv_row]
    by_cases e : x = r
    · rw [if_pos (decide_eq_true e), e, List.idxOf_cons_self]
      rfl
    · rw [if_neg (by rw [decide_eq_true_iff]; exact e), firstD_idx r rows (i + 1) ((List.mem_cons.mp h).resolve_left fun z => e z.symm), List.idxOf_cons, show (x == r) = false from by rw [beq_eq_false_iff_ne]; exact e]
      simp only [cond_false]
      congr 1
      omega
theorem idx_rows {S : Sto} {v : D} {rows : List Row} (h : Rw S v rows) (ho : RowsOk rows) {r : Row} (hr : r.good = true) (hm : r ∈ rows) : dIdx v [r.d] S = .ok (natD (rows.idxOf r)) S := by
  have e1 : py S r.d = some (pyR' r) := py_row _ r
  unfold dIdx
  simp only [h.py, e1]
  rw [if_pos ⟨rows_shp ho, row_shp hr⟩, firstD_idx r rows 0 hm]
  simp only [Nat.zero_add]
  rfl
/-! ### rows as keys -/
def nkR : Row → NestedKey
  | .given i => .tup [.text "given", .num i]
  | .either a b c => .tup [.text "either", .num a, .num b, .num c]
  | .step q n ps => .tup [.text (Row.w q), .text n, .tup (ps.map fun p => .num (p : Nat))]
theorem nks_nats : ∀ ps : List Nat, nksD (ps.map natD) = some (ps.map fun p => .num (p : Nat))
  | [] => rfl
  | p :: ps => by
    rw [List.map_cons]
    show (match nkD (natD p), nksD (ps.map natD) with
      | some k, some ks => some (k :: ks)
      | _, _ => none) = _
    rw [nks_nats ps]
    rfl
theorem nk_row (r : Row) : nkD r.d = some (nkR r) := by
  cases r with
  | given i => rfl
  | either a b c => rfl
  | step q n ps =>
    have e := nks_nats ps
    show Option.map NestedKey.tup (nksD [.str (Row.w q), .str n, .tup (ps.map natD)]) = _
    simp only [nksD, nkD, e, Option.map_some]
    rfl
theorem nums_inj : ∀ ps qs : List Nat, (ps.map fun p => NestedKey.num (p : Nat)) = (qs.map fun p => NestedKey.num (p : Nat)) → ps = qs
  | [], [], _ => rfl
  | [], _ :: _, h => by cases h
  | _ :: _, [], h => by cases h
  | p :: ps, q :: qs, h => by
    rw [List.map_cons, List.map_cons] at h
    injection h with h1 h2
    injection h1 with h1
    rw [nums_inj ps qs h2, Int.ofNat.inj h1]
theorem nkR_inj {a b : Row} (h : nkR a = nkR b) : a = b := by
  have ww : ∀ q r, Row.w q = Row.w r → q = r := fun q r => by cases q <;> cases r <;> decide
  cases a <;> cases b <;> simp only [nkR, NestedKey.tup.injEq, List.cons.injEq, NestedKey.text.injEq, NestedKey.num.injEq, and_true, Int.natCast_inj, reduceCtorEq, and_false] at h
  · rw [h.2]
  · rw [h.2.1, h.2.2.1, h.2.2.2]
  · rw [ww _ _ h.1, h.2.1, nums_inj _ _ h.2.2]
end K08
namespace K08
open PySem PySem.Spec PyProof.Rows L2 Ev
theorem nk_dep (r : Row) : (nkR r).depth ≤ 8 := by
  have e : ∀ ps : List Nat, NestedKey.depthAll (ps.map fun p => NestedKey.num (p : Nat)) = 0 := fun ps => by
    induction ps with
    | nil => rfl
    | cons p ps ih =>
      rw [List.map_cons]
      show max (NestedKey.depth (.num (p : Nat))) (NestedKey.depthAll (ps.map fun p => NestedKey.num (p : Nat))) = 0
      rw [ih]
      rfl
  cases r with
  | given i => exact (by decide : (1 : Nat) ≤ 8)
  | either a b c => exact (by decide : (1 : Nat) ≤ 8)
  | step q n ps =>
    show max 0 (max 0 (max (NestedKey.depthAll (ps.map fun p => NestedKey.num (p : Nat)) + 1) 0)) + 1 ≤ 8
    rw [e]
    decide
theorem row_key (r : Row) : isTp r.d = true ∧ dpOk r.d = true := by
  refine ⟨by cases r <;> rfl, ?_⟩
  unfold dpOk
  rw [nk_row]
  exact decide_eq_true (nk_dep r)
theorem keys_ok (rows : List Row) : ((rows.map Row.d).all fun d => isTp d && dpOk d) = true := by
  rw [List.all_map, List.all_eq_true]
  intro r _
  show (isTp r.d && dpOk r.d) = true
  rw [(row_key r).1, (row_key r).2]
  rfl
theorem keys_any (rows : List Row) (r : Row) : ((rows.map Row.d).any fun d => decide (nkD d = nkD r.d)) = decide (r ∈ rows) := by
  rw [List.any_map, Bool.eq_iff_iff, List.any_eq_true, decide_eq_true_iff]
  constructor
  · rintro ⟨x, hx, e⟩
    have e : decide (nkD x.d = nkD r.d) = true := e
    rw [decide_eq_true_iff, nk_row, nk_row] at e
    exact nkR_inj (Option.some.inj e) ▸ hx
  · intro h
    exact ⟨r, h, by simp⟩
theorem in_known {S : Sto} {c : Nat} {rows : List Row} {vs : List D} (h : S[c]? = some (.ndc (rows.map Row.d) vs)) (r : Row) : dInN false r.d (.m c) S = .ok (.bl (decide (r ∈ rows))) S := by
  unfold dInN
  simp only [isNC, h]
  rw [if_pos ⟨(row_key r).1, (row_key r).2, keys_ok rows⟩, keys_any, Bool.false_xor]
theorem st_known {S : Sto} {c : Nat} {rows : List Row} {vs : List D} (h : S[c]? = some (.ndc (rows.map Row.d) vs)) {r : Row} (hn : r ∉ rows) (hz : rows.length ≤ 4096) (v : D) : dStN (.m c) r.d v S = .ok () (S.set c (.ndc ((rows ++ [r]).map Row.d) (vs ++ [v]))) := by
  unfold dStN
  simp only [h]
  rw [if_pos ⟨(row_key r).1, (row_key r).2, keys_ok rows, by rw [keys_any]; exact decide_eq_false hn, by rw [List.length_map]; omega⟩, List.map_append]
  rfl
theorem get0 {α : Type} (S : List α) (a : α) (T : List α) : (S ++ a :: T)[S.length]? = some a := by simp
theorem get1 {α : Type} (S : List α) (a b : α) (T : List α) : (S ++ a :: b :: T)[S.length + 1]? = some b := by simp
theorem set0 {α : Type} (S : List α) (a x : α) (T : List α) : (S ++ a :: T).set S.length x = S ++ x :: T := by
  rw [List.set_append_right _ _ (Nat.le_refl _)]
  simp
theorem set1 {α : Type} (S : List α) (a b x : α) (T : List α) : (S ++ a :: b :: T).set (S.length + 1) x = S ++ a :: x :: T := by
  rw [List.set_append_right _ _ (Nat.le_add_right _ _)]
  simp
theorem Rd.app {S T : Sto} {v d : D} (h : Rd S v d) : Rd (S ++ T) v d := by
  rcases h with rfl | ⟨c, xs, rfl, e, rfl⟩
  · exact .inl rfl
  · exact .inr ⟨c, xs, rfl, by rw [List.getElem?_append_left (List.getElem?_eq_some_iff.mp e).1]; exact e, rfl⟩
theorem Sq.app {S T : Sto} {v : D} {xs : List D} (h : Sq S v xs) : Sq (S ++ T) v xs := by
  rcases h with rfl | rfl | ⟨c, rfl, e⟩
  · exact .inl rfl
  · exact .inr (.inl rfl)
  · exact .inr (.inr ⟨c, rfl, by rw [List.getElem?_append_left (List.getElem?_eq_some_iff.mp e).1]; exact e⟩)
theorem forX_run {s : Src} {bn : Bn} {body : Sm} {n : Nat} {ρ : Ev.Env} {S : Sto} {X : Ev.R Fl} (hX : forX s bn body n 0 ρ S = X) {P : Sto → Prop} {xs : List D} (hs : Its s P xs) (inv : Nat → Ev.Env → Sto → Prop) (out : D → Sto → Prop) (hP : ∀ i ρ S, inv i ρ S → P S)
    (h0 : inv 0 ρ S) (hn : xs.length < n) (step : ∀ i x ρ S, xs[i]? = some x → inv i ρ S → ∃ ρ1, bn x ρ = some ρ1 ∧ ((∃ ρ2 S2, body ρ1 S = .ok (.nx ρ2) S2 ∧ inv (i + 1) ρ2 S2) ∨ ∃ d S2, body ρ1 S = .ok (.rt d) S2 ∧ out d S2)) :
    (∃ ρ' S', X = .ok (.nx ρ') S' ∧ inv xs.length ρ' S') ∨ ∃ d S', X = .ok (.rt d) S' ∧ out d S' := by
  rw [← hX]
  exact forX_inv hs inv out hP step n 0 ρ S (Nat.zero_le _) (by omega) h0
theorem en_len {S : Sto} {v : D} {xs : List D} (h : Sq S v xs) : (Src.enm v).len S = xs.length + 1 := by
  show ((rdOf S v).getD []).length + 1 = _
  rw [h.rd]
  rfl
theorem sq_len {S : Sto} {v : D} {xs : List D} (h : Sq S v xs) : (Src.seq v).len S = xs.length + 1 := by
  show ((rdOf S v).getD []).length + 1 = _
  rw [h.rd]
  rfl
def enumD (xs : List D) : List D := xs.mapIdx fun i x => .tup [natD i, x]
theorem enumD_at (xs : List D) (i : Nat) : (enumD xs)[i]? = xs[i]?.map fun x => .tup [natD i, x] := List.getElem?_mapIdx
theorem enumD_len (xs : List D) : (enumD xs).length = xs.length := List.length_mapIdx
theorem en_its {S : Sto} {v : D} {xs : List D} (P : Sto → Prop) (h : ∀ S, P S → Sq S v xs) : Its (.enm v) P (enumD xs) := fun S hp i => by
  show (rdOf S v).map (fun xs => (xs[i]?).map fun x => D.tup [.int (i : Nat), x]) = _
  rw [(h S hp).rd, enumD_at]
  rfl
theorem sq_its {S : Sto} {v : D} {xs : List D} (P : Sto → Prop) (h : ∀ S, P S → Sq S v xs) : Its (.seq v) P xs := fun S hp i => by
  show (rdOf S v).map (fun xs => xs[i]?) = _
  rw [(h S hp).rd]
  rfl
theorem app_cell {S : Sto} {c : Nat} {xs : List D} (h : S[c]? = some (.lst xs)) (hz : xs.length < 16777216) (y : D) : dApp (.m c) [y] S = .ok .non (S.set c (.lst (xs ++ [y]))) := by
  unfold dApp
  simp only [h]
  rw [if_pos hz]
theorem li_cell {S : Sto} {c : Nat} {xs : List D} (h : S[c]? = some (.lst xs)) : liOf S (.m c) = some xs := by
  unfold liOf lstOf
  simp only [h]
theorem fltL_cons (acc : List Row) (d : D) (ds : List D) : fltL acc (d :: ds) = match formR d with
    | none => (acc, some (acc.length, "form"))
    | some r => match why acc r with
      | some w => (acc, some (acc.length, w))
      | none => if r ∈ acc then (acc, some (acc.length, "twice")) else fltL (acc ++ [r]) ds := rfl
theorem fltL_len : ∀ (xs : List D) (acc : List Row), (fltL acc xs).1.length ≤ acc.length + xs.length
  | [], acc => Nat.le_refl _
  | x :: xs, acc => by
    unfold fltL
    split
    · show acc.length ≤ _
      omega
    · split
      · show acc.length ≤ _
        omega
      · split
        · show acc.length ≤ _
          omega
        · have := fltL_len xs (acc ++ [‹Row›])
          rw [List.length_append] at this
          simp at this ⊢
          omega
theorem isNon_str (s : Str) : Ev.isNon (.str s) = false := rfl
theorem isNon_non : Ev.isNon .non = true := rfl
/-- what rows_and_fault tells -/
theorem rows_fault_ok (k : Nat) {S : Sto} {u d : D} (hu : Rd S u d) (t : Tr d) : ∃ w T, sem MM (k + 5) 8 [u] S = .ok (.tup [w, optF (fault d).2]) (S ++ T) ∧ ((fault d).2 = none → w = .m S.length ∧ ∃ T', T = .lst ((fault d).1.map Row.d) :: T') := by
  rw [s8, runF]
  have h0 : sem MM (k + 4) 2 [u] S = .ok (.bl (seqB d)) S := is_list_ok (k + 3) hu t.kd
  unfold fault
  cases hb : seqB d with
  | false =>
    rw [hb] at h0
    refine ⟨.lst [], [], ?_, fun h => by cases h⟩
    simp [g8, h0, mkT, mkL, optF]
    rfl
  | true =>
    rw [hb] at h0
    have hs := hu.sq hb
    have ht := t.items
    simp only [if_true]
    generalize itemsD d = xs at hs ht ⊢
    have hxz := ht.len
    have hen : srEn [u] (S ++ [.lst [], .ndc [] []]) = .ok (.enm u) (S ++ [.lst [], .ndc [] []]) := hs.app.en
    have hln : (Src.enm u).len (S ++ [.lst [], .ndc [] []]) = xs.length + 1 := en_len hs.app
    simp [g8, h0, mkC, hen, a_kfo, hln]
    generalize hX : forX _ _ _ _ _ _ _ = X
    have key := forX_run hX (P := fun S' => ∃ T, S' = S ++ T) (xs := enumD xs)
      (en_its (S := S) _ (fun S' ⟨T, e⟩ => by rw [e]; exact hs.app))
      (fun i ρ S' => ∃ acc vs e3 e4 e5 e6, ρ = [some u, some (.m S.length), some (.m (S.length + 1)), e3, e4, e5, e6] ∧ S' = S ++ [.lst (acc.map Row.d), .ndc (acc.map Row.d) vs] ∧ acc.length = i ∧ i ≤ xs.length ∧ RowsOk acc ∧ fltL [] xs = fltL acc (xs.drop i))
      (fun e S' => ∃ T', e = .tup [.m S.length, optF (fltL [] xs).2] ∧ S' = S ++ .lst ((fltL [] xs).1.map Row.d) :: T' ∧ (fltL [] xs).2 ≠ none)
      (fun i ρ S' ⟨acc, vs, e3, e4, e5, e6, h1, h2, h3, h4, h5, h6⟩ => ⟨_, h2⟩)
      ⟨[], [], none, none, none, none, rfl, rfl, rfl, Nat.zero_le _, fun _ h => (by cases h), rfl⟩ (by rw [enumD_len]; exact Nat.lt_succ_self _)
      (fun i x ρ S' hx ⟨acc, vs, e3, e4, e5, e6, h1, h2, h3, h4, h5, h6⟩ => by
        rw [enumD_at] at hx
        obtain ⟨y, hy, rfl⟩ := Option.map_eq_some_iff.mp hx
        have hi : i < xs.length := (List.getElem?_eq_some_iff.mp hy).1
        have ty : Tr y := ht.mem (List.mem_of_getElem? hy)
        subst h1
        subst h2
        refine ⟨[some u, some (.m S.length), some (.m (S.length + 1)), some (natD i), some y, e5, e6], rfl, ?_⟩
        have hrw : Rw (S ++ [.lst (acc.map Row.d), .ndc (acc.map Row.d) vs]) (.m S.length) acc := .inr ⟨_, rfl, get0 _ _ _⟩
        have hkn : (S ++ [.lst (acc.map Row.d), .ndc (acc.map Row.d) vs])[S.length + 1]? = some (.ndc (acc.map Row.d) vs) := get1 _ _ _ _
        have hf : sem MM (k + 4) 7 [.m S.length, y] (S ++ [.lst (acc.map Row.d), .ndc (acc.map Row.d) vs]) = .ok (optS (whyO acc (formR y))) _ := row_fault_ok k hrw.sq Rd.here ty
        have hr : sem MM (k + 4) 4 [y] (S ++ [.lst (acc.map Row.d), .ndc (acc.map Row.d) vs]) = .ok (optR (formR y)) _ := as_row_ok (k + 1) Rd.here ty
        have hdrop : xs.drop i = y :: xs.drop (i + 1) := by
          rw [List.drop_eq_getElem_cons hi]
          congr 1
          rw [List.getElem?_eq_getElem hi] at hy
          exact Option.some.inj hy
        rw [hdrop, fltL_cons] at h6
        cases hfr : formR y with
        | none =>
          rw [hfr] at hf hr h6
          simp only [] at h6
          refine .inr ⟨_, _, ?_, [.ndc (acc.map Row.d) vs], by rw [h6], by rw [h6], by rw [h6]; exact fun h => by cases h⟩
          simp [hf, hr, whyO, optS, optR, isNon_str, mkT, optF, h3]
        | some r =>
          have hg := form_good ty hfr
          rw [hfr] at hf hr h6
          have hr : sem MM (k + 4) 4 [y] (S ++ [.lst (acc.map Row.d), .ndc (acc.map Row.d) vs]) = .ok r.d _ := hr
          have hf : sem MM (k + 4) 7 [.m S.length, y] (S ++ [.lst (acc.map Row.d), .ndc (acc.map Row.d) vs]) = .ok (optS (why acc r)) _ := hf
          simp only [] at h6
          cases hw : why acc r with
          | some w =>
            rw [hw] at hf h6
            simp only [] at h6
            refine .inr ⟨_, _, ?_, [.ndc (acc.map Row.d) vs], by rw [h6], by rw [h6], by rw [h6]; exact fun h => by cases h⟩
            simp [hf, hr, optS, isNon_str, mkT, optF, h3]
          | none =>
            rw [hw] at hf h6
            simp only [] at h6
            have hin := in_known hkn r
            by_cases hm : r ∈ acc
            · rw [if_pos hm] at h6
              rw [decide_eq_true hm] at hin
              refine .inr ⟨_, _, ?_, [.ndc (acc.map Row.d) vs], by rw [h6], by rw [h6], by rw [h6]; exact fun h => by cases h⟩
              simp [hf, hr, hin, optS, isNon_str, isNon_non, mkT, optF, h3]
            · rw [if_neg hm] at h6
              rw [decide_eq_false hm] at hin
              have hz : acc.length ≤ 4096 := by omega
              have ha := app_cell (get0 S (.lst (acc.map Row.d)) [.ndc (acc.map Row.d) vs]) (by rw [List.length_map]; omega) r.d
              rw [set0] at ha
              have hst := st_known (get1 S (.lst (acc.map Row.d ++ [r.d])) (.ndc (acc.map Row.d) vs) []) hm hz (natD i)
              rw [set1] at hst
              have hli := li_cell (get0 S (.lst (acc.map Row.d)) [.ndc (acc.map Row.d) vs])
              refine .inl ⟨_, _, ?_, acc ++ [r], vs ++ [natD i], some (natD i), some y, some .non, some r.d, rfl, rfl, by simp [h3], hi, fun z hz => ?_, h6⟩
              · simp [hf, hr, hin, optS, isNon_str, isNon_non, a_km1 hli, ha, hst]
              · rcases List.mem_append.mp hz with z | z
                · exact h5 _ z
                · rw [List.mem_singleton.mp z]; exact hg)
    rcases key with ⟨ρ', S', e, acc, vs, e3, e4, e5, e6, h1, h2, h3, h4, h5, h6⟩ | ⟨e, S', e1, T', e2, e3, e4⟩
    · subst e
      have e0 : fltL acc (xs.drop (enumD xs).length) = (acc, none) := by
        rw [enumD_len, List.drop_length]
        rfl
      rw [e0] at h6
      subst h1
      subst h2
      rw [h6]
      exact ⟨.m S.length, [.lst (acc.map Row.d), .ndc (acc.map Row.d) vs], by simp [mkT, optF], fun _ => ⟨rfl, _, rfl⟩⟩
    · subst e1
      rw [e2, e3]
      exact ⟨.m S.length, .lst ((fltL [] xs).1.map Row.d) :: T', by simp, fun h => absurd h e4⟩
end K08
namespace K08
open PySem PySem.Spec PyProof.Rows L2 Ev
@[simp] theorem isNon_optF (f : Option (Nat × Str)) : Ev.isNon (optF f) = f.isNone := by
  rcases f with _ | ⟨i, w⟩ <;> rfl
theorem ix_tup1 (a b : D) (S : Sto) : dIx (.tup [a, b]) (.int 1) S = .ok b S := id rfl
theorem ix_tup0 (a b : D) (S : Sto) : dIx (.tup [a, b]) (.int 0) S = .ok a S := id rfl
theorem web_fault_ok (k : Nat) {S : Sto} {u d : D} (hu : Rd S u d) (t : Tr d) : ∃ T, sem MM (k + 6) 9 [u] S = .ok (optF (fault d).2) (S ++ T) := by
  obtain ⟨w, T, h, _⟩ := rows_fault_ok k hu t
  refine ⟨T, ?_⟩
  rw [s9, runF]
  simp [g9, h, ix_tup1]
theorem is_web_ok (k : Nat) {S : Sto} {u d : D} (hu : Rd S u d) (t : Tr d) : ∃ T, sem MM (k + 7) 10 [u] S = .ok (.bl (fault d).2.isNone) (S ++ T) := by
  obtain ⟨T, h⟩ := web_fault_ok k hu t
  refine ⟨T, ?_⟩
  rw [s10, runF]
  simp [g10, h]
theorem checked_ok (k : Nat) {S : Sto} {u d : D} (hu : Rd S u d) (t : Tr d) : ∃ T, match (fault d).2 with
    | some (i, _) => sem MM (k + 6) 11 [u] S = .ex 0 [natD i] (S ++ T)
    | none => ∃ T', T = .lst ((fault d).1.map Row.d) :: T' ∧ sem MM (k + 6) 11 [u] S = .ok (.m S.length) (S ++ T) := by
  obtain ⟨w, T, h, h2⟩ := rows_fault_ok k hu t
  refine ⟨T, ?_⟩
  rw [s11, runF]
  rcases hf : (fault d).2 with _ | ⟨i, s⟩
  · obtain ⟨rfl, T', rfl⟩ := h2 hf
    rw [hf] at h
    refine ⟨T', rfl, ?_⟩
    simp [g11, h, optF, isNon_non]
  · rw [hf] at h
    have e : Ev.isNon (optF (some (i, s))) = false := rfl
    have e2 : dIx (optF (some (i, s))) (.int 0) (S ++ T) = .ok (natD i) (S ++ T) := rfl
    simp [g11, h, e, rse, e2]
def putR (rows : List Row) (r : Row) : List Row := if r ∈ rows then rows else rows ++ [r]
theorem put_in_ok (k : Nat) {S : Sto} {c : Nat} {rows : List Row} (h : S[c]? = some (.lst (rows.map Row.d))) (ho : RowsOk rows) (hz : rows.length ≤ 4096) {r : Row} (hr : r.good = true) :
    sem MM (k + 1) 12 [.m c, r.d] S = .ok (natD ((putR rows r).idxOf r)) (S.set c (.lst ((putR rows r).map Row.d))) := by
  rw [s12, runF]
  have hrw : Rw S (.m c) rows := .inr ⟨c, rfl, h⟩
  have hin := in_rows true hrw ho hr
  simp only [if_true] at hin
  have hc : c < S.length := (List.getElem?_eq_some_iff.mp h).1
  unfold putR
  by_cases hm : r ∈ rows
  · rw [decide_eq_true hm] at hin
    have hi := idx_rows hrw ho hr hm
    have e : S.set c (.lst (rows.map Row.d)) = S := by
      have e2 := (List.getElem?_eq_some_iff.mp h).2
      rw [← e2, List.set_getElem_self]
    rw [if_pos hm, e]
    simp [g12, hin, a_km1 (li_cell h), hi]
  · rw [decide_eq_false hm] at hin
    have ha := app_cell h (by rw [List.length_map]; omega) r.d
    have h2 : (S.set c (.lst (rows.map Row.d ++ [r.d])))[c]? = some (.lst ((rows ++ [r]).map Row.d)) := by
      rw [List.getElem?_set_self hc, List.map_append]
      rfl
    have ho2 : RowsOk (rows ++ [r]) := fun x hx => by
      rcases List.mem_append.mp hx with z | z
      · exact ho x z
      · rw [List.mem_singleton.mp z]; exact hr
    have hi := idx_rows (.inr ⟨c, rfl, h2⟩) ho2 hr (by simp)
    rw [if_neg hm]
    simp [g12, hin, a_km1 (li_cell h), ha]
    rw [a_km1 (li_cell h2)]
    simp [hi]
theorem fault_len {d : D} (t : Tr d) : (fault d).1.length ≤ 4096 := by
  unfold fault
  split
  · have := fltL_len (itemsD d) []
    have := t.items.len
    simp at *
    omega
  · exact Nat.zero_le _
theorem fault_ok {d : D} (t : Tr d) : RowsOk (fault d).1 := by
  unfold fault
  split
  · exact (fltL_web .nil _ fun x hx => t.items.mem hx).good
  · intro r h; cases h
theorem isNon_optS (s : Option Str) : Ev.isNon (optS s) = s.isNone := by
  cases s <;> rfl
theorem put_row_ok (k : Nat) {S : Sto} {u x d e : D} (hu : Rd S u d) (t : Tr d) (hx : Rd S x e) (te : Tr e) : ∃ T, match (fault d).2 with
    | some (i, _) => sem MM (k + 7) 13 [u, x] S = .ex 0 [natD i] (S ++ T)
    | none => match formR e with
      | none => sem MM (k + 7) 13 [u, x] S = .ex 1 [x] (S ++ T)
      | some r => match why (fault d).1 r with
        | some _ => sem MM (k + 7) 13 [u, x] S = .ex 1 [x] (S ++ T)
        | none => ∃ T', T = .lst ((putR (fault d).1 r).map Row.d) :: T' ∧ sem MM (k + 7) 13 [u, x] S = .ok (.tup [.m S.length, natD ((putR (fault d).1 r).idxOf r)]) (S ++ T) := by
  obtain ⟨T, h⟩ := checked_ok k hu t
  rcases hf : (fault d).2 with _ | ⟨i, s⟩
  · rw [hf] at h
    obtain ⟨T', rfl, h⟩ := h
    have hc : (S ++ Ob.lst ((fault d).1.map Row.d) :: T')[S.length]? = some (.lst ((fault d).1.map Row.d)) := get0 _ _ _
    have hrf : sem MM (k + 6) 7 [.m S.length, x] (S ++ Ob.lst ((fault d).1.map Row.d) :: T') = _ := row_fault_ok (k + 2) (.inr (.inr ⟨_, rfl, hc⟩)) hx.app te
    have har : sem MM (k + 6) 4 [x] (S ++ Ob.lst ((fault d).1.map Row.d) :: T') = _ := as_row_ok (k + 3) hx.app te
    simp only []
    cases hr : formR e with
    | none =>
      rw [hr] at hrf
      refine ⟨.lst ((fault d).1.map Row.d) :: T', ?_⟩
      rw [s13, runF]
      simp [g13, h, hrf, whyO, optS, isNon_str, rse]
    | some r =>
      have hg := form_good te hr
      rw [hr] at hrf har
      have hrf : sem MM (k + 6) 7 [.m S.length, x] (S ++ Ob.lst ((fault d).1.map Row.d) :: T') = .ok (optS (why (fault d).1 r)) _ := hrf
      have har : sem MM (k + 6) 4 [x] (S ++ Ob.lst ((fault d).1.map Row.d) :: T') = .ok r.d _ := har
      simp only []
      cases hw : why (fault d).1 r with
      | some w =>
        rw [hw] at hrf
        refine ⟨.lst ((fault d).1.map Row.d) :: T', ?_⟩
        rw [s13, runF]
        simp [g13, h, hrf, optS, isNon_str, rse]
      | none =>
        rw [hw] at hrf
        have hp : sem MM (k + 6) 12 [.m S.length, r.d] (S ++ Ob.lst ((fault d).1.map Row.d) :: T') = _ := put_in_ok (k + 5) hc (fault_ok t) (fault_len t) hg
        rw [set0] at hp
        refine ⟨.lst ((putR (fault d).1 r).map Row.d) :: T', T', rfl, ?_⟩
        rw [s13, runF]
        simp [g13, h, hrf, har, hp, optS, isNon_non, mkT]
  · rw [hf] at h
    refine ⟨T, ?_⟩
    rw [s13, runF]
    simp only [] at h ⊢
    simp [g13, h]
theorem g_fault_ok (k : Nat) {S : Sto} {u d : D} (hu : Rd S u d) (t : Tr d) : ∃ T, sem MM (k + 4) 26 [u] S = .ok (optF (fault d).2) (S ++ T) := by
  rw [s26, runF]
  have h0 := isi_seq hu t.kd
  unfold fault
  cases hb : seqB d with
  | false =>
    rw [hb] at h0
    refine ⟨[], ?_⟩
    simp [g26, h0, mkT, optF]
    rfl
  | true =>
    rw [hb] at h0
    have hs := hu.sq hb
    have ht := t.items
    simp only [if_true]
    generalize itemsD d = xs at hs ht ⊢
    have hxz := ht.len
    have hen : srEn [u] (S ++ [.lst []]) = .ok (.enm u) (S ++ [.lst []]) := hs.app.en
    have hln : (Src.enm u).len (S ++ [.lst []]) = xs.length + 1 := en_len hs.app
    simp [g26, mkT, h0, mkC, hen, a_kfo, hln]
    generalize hX : forX _ _ _ _ _ _ _ = X
    have key := forX_run hX (P := fun S' => ∃ T, S' = S ++ T) (xs := enumD xs)
      (en_its (S := S) _ (fun S' ⟨T, e⟩ => by rw [e]; exact hs.app))
      (fun i ρ S' => ∃ acc e2 e3 e4, ρ = [some u, some (.m S.length), e2, e3, e4] ∧ S' = S ++ [.lst (acc.map Row.d)] ∧ acc.length = i ∧ i ≤ xs.length ∧ RowsOk acc ∧ fltL [] xs = fltL acc (xs.drop i))
      (fun e S' => ∃ T', e = optF (fltL [] xs).2 ∧ S' = S ++ T')
      (fun i ρ S' ⟨acc, e2, e3, e4, h1, h2, h3, h4, h5, h6⟩ => ⟨_, h2⟩)
      ⟨[], none, none, none, rfl, rfl, rfl, Nat.zero_le _, fun _ h => (by cases h), rfl⟩ (by rw [enumD_len]; exact Nat.lt_succ_self _)
      (fun i x ρ S' hx ⟨acc, e2, e3, e4, h1, h2, h3, h4, h5, h6⟩ => by
        rw [enumD_at] at hx
        obtain ⟨y, hy, rfl⟩ := Option.map_eq_some_iff.mp hx
        have hi : i < xs.length := (List.getElem?_eq_some_iff.mp hy).1
        have ty : Tr y := ht.mem (List.mem_of_getElem? hy)
        subst h1
        subst h2
        refine ⟨[some u, some (.m S.length), some (natD i), some y, e4], rfl, ?_⟩
        have hc : (S ++ [.lst (acc.map Row.d)])[S.length]? = some (.lst (acc.map Row.d)) := get0 _ _ _
        have hrw : Rw (S ++ [.lst (acc.map Row.d)]) (.m S.length) acc := .inr ⟨_, rfl, hc⟩
        have hf : sem MM (k + 3) 25 [.m S.length, y] (S ++ [.lst (acc.map Row.d)]) = .ok (optS (whyO acc (formR y))) _ := g_why_ok k hrw.sq Rd.here ty
        have hr : sem MM (k + 3) 23 [y] (S ++ [.lst (acc.map Row.d)]) = .ok (optR (formR y)) _ := g_form_ok (k + 1) Rd.here ty
        have hdrop : xs.drop i = y :: xs.drop (i + 1) := by
          rw [List.drop_eq_getElem_cons hi]
          congr 1
          rw [List.getElem?_eq_getElem hi] at hy
          exact Option.some.inj hy
        rw [hdrop, fltL_cons] at h6
        cases hfr : formR y with
        | none =>
          rw [hfr] at hf hr h6
          simp only [] at h6
          refine .inr ⟨_, _, ?_, [.lst (acc.map Row.d)], by rw [h6], rfl⟩
          simp [hf, whyO, optS, isNon_str, mkT, optF, h3]
        | some r =>
          have hg := form_good ty hfr
          rw [hfr] at hf hr h6
          have hr : sem MM (k + 3) 23 [y] (S ++ [.lst (acc.map Row.d)]) = .ok r.d _ := hr
          have hf : sem MM (k + 3) 25 [.m S.length, y] (S ++ [.lst (acc.map Row.d)]) = .ok (optS (why acc r)) _ := hf
          simp only [] at h6
          cases hw : why acc r with
          | some w =>
            rw [hw] at hf h6
            simp only [] at h6
            refine .inr ⟨_, _, ?_, [.lst (acc.map Row.d)], by rw [h6], rfl⟩
            simp [hf, optS, isNon_str, mkT, optF, h3]
          | none =>
            rw [hw] at hf h6
            simp only [] at h6
            have hin := in_rows false hrw h5 hg
            simp only [Bool.false_eq_true, if_false] at hin
            by_cases hm : r ∈ acc
            · rw [if_pos hm] at h6
              rw [decide_eq_true hm] at hin
              refine .inr ⟨_, _, ?_, [.lst (acc.map Row.d)], by rw [h6], rfl⟩
              simp [hf, hr, hin, optS, isNon_str, isNon_non, mkT, optF, h3]
            · rw [if_neg hm] at h6
              rw [decide_eq_false hm] at hin
              have ha := app_cell hc (by rw [List.length_map]; omega) r.d
              rw [set0] at ha
              refine .inl ⟨_, _, ?_, acc ++ [r], some (natD i), some y, some .non, rfl, rfl, by simp [h3], hi, fun z hz => ?_, h6⟩
              · simp [hf, hr, hin, optS, isNon_non, a_km1 (li_cell hc), ha]
              · rcases List.mem_append.mp hz with z | z
                · exact h5 _ z
                · rw [List.mem_singleton.mp z]; exact hg)
    rcases key with ⟨ρ', S', e, acc, e2, e3, e4, h1, h2, h3, h4, h5, h6⟩ | ⟨e, S', e1, T', e2, e3⟩
    · subst e
      have e0 : fltL acc (xs.drop (enumD xs).length) = (acc, none) := by
        rw [enumD_len, List.drop_length]
        rfl
      rw [e0] at h6
      subst h1
      subst h2
      rw [h6]
      exact ⟨[.lst (acc.map Row.d)], by simp [optF]⟩
    · subst e1
      rw [e2, e3]
      exact ⟨T', by simp⟩
end K08
namespace K08
open PySem PySem.Spec PyProof.Rows L2 Ev
/-! ## the well, draws -/
/-- the well stands in cell c, N draws are still allowed -/
def Wl (c N : Nat) (S : Sto) : Prop := ∃ a b n : Nat, S[c]? = some (.lst [natD a, natD b, natD n]) ∧ b < 2 ^ 40 ∧ n + N ≤ 2 ^ 49
/-- nothing has changed but cell c; new cells may stand behind -/
structure Ext (c : Nat) (S S' : Sto) : Prop where
  le : S.length ≤ S'.length
  at_ : ∀ j, j < S.length → j ≠ c → S'[j]? = S[j]?
section
variable {c N M : Nat} {S S1 S2 : Sto}
theorem Wl.less (h : Wl c N S) (hm : M ≤ N) : Wl c M S := by
  obtain ⟨a, b, n, h1, h2, h3⟩ := h
  exact ⟨a, b, n, h1, h2, by omega⟩
theorem Wl.lt (h : Wl c N S) : c < S.length := by
  obtain ⟨a, b, n, h1, _⟩ := h
  exact (List.getElem?_eq_some_iff.mp h1).1
theorem Ext.refl : Ext c S S := ⟨Nat.le_refl _, fun _ _ _ => rfl⟩
theorem Ext.trans (h : Ext c S S1) (g : Ext c S1 S2) : Ext c S S2 :=
  ⟨Nat.le_trans h.le g.le, fun j hj hc => (g.at_ j (Nat.lt_of_lt_of_le hj h.le) hc).trans (h.at_ j hj hc)⟩
theorem Ext.keep (h : Ext c S S1) {j : Nat} {o : Ob} (e : S[j]? = some o) (hc : j ≠ c) : S1[j]? = some o :=
  (h.at_ j (List.getElem?_eq_some_iff.mp e).1 hc).trans e
theorem Ext.app (T : Sto) : Ext c S (S ++ T) := ⟨by simp, fun j hj _ => List.getElem?_append_left hj⟩
theorem Ext.write {o : Ob} : Ext c S (S.set c o) := ⟨by simp, fun j hj hc => List.getElem?_set_ne (Ne.symm hc)⟩
/-- a write to a cell that was not there at the beginning -/
theorem Ext.late (h : Ext c S S1) {j : Nat} (hj : S.length ≤ j) {o : Ob} : Ext c S (S1.set j o) :=
  ⟨by rw [List.length_set]; exact h.le, fun i hi hc => by
    rw [List.getElem?_set_ne (by omega)]
    exact h.at_ i hi hc⟩
theorem Wl.app (h : Wl c N S) (T : Sto) : Wl c N (S ++ T) := by
  obtain ⟨a, b, n, h1, h2⟩ := h
  exact ⟨a, b, n, by rw [List.getElem?_append_left (List.getElem?_eq_some_iff.mp h1).1]; exact h1, h2⟩
theorem Wl.set (h : Wl c N S) {j : Nat} (hj : j ≠ c) (o : Ob) : Wl c N (S.set j o) := by
  obtain ⟨a, b, n, h1, h2⟩ := h
  exact ⟨a, b, n, by rw [List.getElem?_set_ne hj]; exact h1, h2⟩
theorem Sq.ext {v : D} {xs : List D} (h : Sq S v xs) (hv : ∀ j, v = .m j → j ≠ c) (e : Ext c S S1) : Sq S1 v xs := by
  rcases h with rfl | rfl | ⟨j, rfl, h⟩
  · exact .inl rfl
  · exact .inr (.inl rfl)
  · exact .inr (.inr ⟨j, rfl, e.keep h (hv j rfl)⟩)
theorem Rd.ext {v d : D} (h : Rd S v d) (hv : ∀ j, v = .m j → j ≠ c) (e : Ext c S S1) : Rd S1 v d := by
  rcases h with rfl | ⟨j, xs, rfl, h, rfl⟩
  · exact .inl rfl
  · exact .inr ⟨j, xs, rfl, e.keep h (hv j rfl), rfl⟩
end
@[simp] theorem mod_ok {i j : Int} (h : 0 < j) (S : Sto) : dMod (.int i) (.int j) S = .ok (.int (i % j)) S := by
  unfold dMod
  simp only []
  rw [if_pos h]
@[simp] theorem add_int (i j : Int) (S : Sto) : dAdd (.int i) (.int j) S = .ok (.int (i + j)) S := id rfl
@[simp] theorem int_int (i : Int) (S : Sto) : dInt [.int i] S = .ok (.int i) S := id rfl
@[simp] theorem abs_int (i : Int) (S : Sto) : dAbs [.int i] S = .ok (.int (if i < 0 then -i else i)) S := id rfl
theorem div_ok {i j : Int} (h : 0 < j ∧ j < 1073741824) (S : Sto) : dDiv (.int i) (.int j) S = .ok (.int (i / j)) S := by
  unfold dDiv
  simp only []
  rw [if_pos h]
theorem mul_int {i j : Int} (h : (big i || big j) = true) (S : Sto) : dMul (.int i) (.int j) S = .ok (.int (i * j)) S := by
  unfold dMul
  simp only []
  rw [if_pos h]
theorem big_ok {i : Int} (h : -(2 ^ 64) < i ∧ i < 2 ^ 64) : big i = true := decide_eq_true h
theorem pow_ok {i j : Int} (h : 0 ≤ j ∧ j ≤ 1000000 ∧ i.natAbs < 2 ^ 64) (S : Sto) : dPow (.int i) (.int j) S = .ok (.int (i ^ j.toNat)) S := by
  unfold dPow
  simp only []
  rw [if_pos h]
theorem nat_of {i : Int} (h : 0 ≤ i) : D.int i = natD i.toNat := by
  show D.int i = D.int ((i.toNat : Nat) : Int)
  rw [Int.toNat_of_nonneg h]
theorem st_cell {S : Sto} {c : Nat} {xs : List D} (h : S[c]? = some (.lst xs)) {i : Nat} (hi : i < xs.length) (v : D) : dSt (.m c) (.int i) v S = .ok () (S.set c (.lst (xs.set i v))) := by
  unfold dSt
  simp only [h]
  have e : ixN xs.length (i : Int) = some i := by
    unfold ixN
    rw [if_pos (by omega), if_pos (by omega)]
    rfl
  rw [e]
theorem draw_ok (k : Nat) {c N : Nat} {S : Sto} (h : Wl c (N + 1) S) {m : Int} (hm : 0 < m ∧ m < 1073741824) :
    ∃ (r : Nat) (S' : Sto), sem MM (k + 1) 15 [.m c, .int m] S = .ok (natD r) S' ∧ (r : Int) < m ∧ Wl c N S' ∧ Ext c S S' := by
  obtain ⟨a, b, n, h1, h2, h3⟩ := h
  have hs : Sq S (.m c) [natD a, natD b, natD n] := .inr (.inr ⟨c, rfl, h1⟩)
  have x0 := hs.ix 0 at0
  have x1 := hs.ix 1 at1
  have x2 := hs.ix 2 at2
  have hc : c < S.length := (List.getElem?_eq_some_iff.mp h1).1
  by_cases ha : (0 : Int) < (a : Int)
  · have hmod : dMod (natD a) (.int m) S = .ok (.int ((a : Int) % m)) S := mod_ok hm.1 S
    have hint : dInt [natD a] S = .ok (natD a) S := rfl
    have hgt : dCo .Gt (natD a) (.int 0) S = .ok (.bl true) S := by
      show R.ok (D.bl (decide ((0 : Int) < (a : Int)))) S = _
      rw [decide_eq_true ha]
    have hdiv : dDiv (natD a) (.int m) S = .ok (.int ((a : Int) / m)) S := div_ok hm S
    have hst := st_cell h1 (i := 0) (by simp) (.int ((a : Int) / m))
    have e1 := Int.emod_nonneg (a : Int) (by omega : m ≠ 0)
    have e2 := Int.emod_lt_of_pos (a : Int) hm.1
    have e3 : 0 ≤ (a : Int) / m := Int.ediv_nonneg (by omega) (by omega)
    refine ⟨((a : Int) % m).toNat, S.set c (.lst [natD ((a : Int) / m).toNat, natD b, natD n]), ?_, by omega, ⟨((a : Int) / m).toNat, b, n, List.getElem?_set_self hc, h2, by omega⟩, Ext.write⟩
    have hst : dSt (.m c) (.int 0) (.int ((a : Int) / m)) S = .ok () (S.set c (.lst [.int ((a : Int) / m), natD b, natD n])) := hst
    rw [nat_of e3] at hst hdiv
    rw [nat_of e1] at hmod
    rw [s15, runF]
    simp [g15, x0, hgt, hint, hmod, hdiv, hst]
  · have hgt : dCo .Gt (natD a) (.int 0) S = .ok (.bl false) S := by
      show R.ok (D.bl (decide ((0 : Int) < (a : Int)))) S = _
      rw [decide_eq_false ha]
    have hadd : dAdd (natD n) (.int 1) S = .ok (natD (n + 1)) S := rfl
    have hst : dSt (.m c) (.int 2) (natD (n + 1)) S = .ok () (S.set c (.lst [natD a, natD b, natD (n + 1)])) := st_cell h1 (i := 2) (by simp) (natD (n + 1))
    let S1 := S.set c (.lst [natD a, natD b, natD (n + 1)])
    have h1' : S1[c]? = some (.lst [natD a, natD b, natD (n + 1)]) := List.getElem?_set_self hc
    have hs' : Sq S1 (.m c) [natD a, natD b, natD (n + 1)] := .inr (.inr ⟨c, rfl, h1'⟩)
    have y1 := hs'.ix 1 at1
    have y2 := hs'.ix 2 at2
    have hm1 : dMul (.int 8191) (natD (n + 1)) S1 = .ok (.int (8191 * ((n + 1 : Nat) : Int))) S1 := mul_int (by rw [big_ok (by decide), Bool.true_or]) S1
    have ha1 : dAdd (natD b) (.int (8191 * ((n + 1 : Nat) : Int))) S1 = .ok (.int ((b : Int) + 8191 * ((n + 1 : Nat) : Int))) S1 := rfl
    have hp : dPow (.int ((b : Int) + 8191 * ((n + 1 : Nat) : Int) + 65537)) (.int 5) S1 = .ok (.int (((b : Int) + 8191 * ((n + 1 : Nat) : Int) + 65537) ^ 5)) S1 := pow_ok ⟨by omega, by omega, by omega⟩ S1
    generalize ((b : Int) + 8191 * ((n + 1 : Nat) : Int) + 65537) ^ 5 = P at hp
    have hm2 : dMul (.int 7) (natD (n + 1)) S1 = .ok (.int (7 * ((n + 1 : Nat) : Int))) S1 := mul_int (by rw [big_ok (by decide), Bool.true_or]) S1
    have hm3 : ∀ x : Int, dMul (.int x) (.int 48271) S1 = .ok (.int (x * 48271)) S1 := fun x => mul_int (by rw [show big 48271 = true from big_ok (by decide), Bool.or_true]) S1
    have hd : ∀ x : Int, dDiv (.int x) (.int 9) S1 = .ok (.int (x / 9)) S1 := fun x => div_ok (by omega) S1
    have hmd : ∀ x : Int, dMod (.int x) (.int m) S1 = .ok (.int (x % m)) S1 := fun x => mod_ok hm.1 S1
    generalize ((n + 1 : Nat) : Int) = q at hm1 ha1 hp hm2
    refine ⟨((P % 2147483647 + 7 * q) * 48271 % 2147483629 / 9 % m).toNat, S1, ?_, ?_, ⟨a, b, n + 1, h1', h2, by omega⟩, Ext.write⟩
    · rw [s15, runF]
      simp only [show S.set c (.lst [natD a, natD b, natD (n + 1)]) = S1 from rfl] at hst
      simp [g15, x0, x2, hgt, hadd, hst, y1, y2, hm1, ha1, hp, hm2, hm3, hd, hmd]
      rw [nat_of (Int.emod_nonneg _ (by omega : m ≠ 0))]
    · rw [Int.toNat_of_nonneg (Int.emod_nonneg _ (by omega : m ≠ 0))]
      exact Int.emod_lt_of_pos _ hm.1
theorem pick_ok (k : Nat) {c N : Nat} {S : Sto} (h : Wl c (N + 1) S) {v : D} {xs : List D} (hv : Sq S v xs) (hc : ∀ j, v = .m j → j ≠ c) (hx : xs ≠ []) (hz : xs.length ≤ 4096) :
    ∃ (x : D) (S' : Sto), x ∈ xs ∧ sem MM (k + 2) 16 [.m c, v] S = .ok x S' ∧ Wl c N S' ∧ Ext c S S' := by
  have hl : 0 < xs.length := List.length_pos_iff.mpr hx
  obtain ⟨r, S', e1, e2, e3, e4⟩ := draw_ok k h (m := (xs.length : Int)) ⟨by omega, by omega⟩
  have hr : r < xs.length := by omega
  have hix := (hv.ext hc e4).ix (r : Int) (atN (List.getElem?_eq_getElem hr))
  refine ⟨xs[r], S', List.getElem_mem hr, ?_, e3, e4⟩
  have hix : dIx v (natD r) S' = .ok xs[r] S' := hix
  rw [s16, runF]
  simp [g16, hv.len, e1, hix]
theorem pop_cell {S : Sto} {c : Nat} {xs : List D} (h : S[c]? = some (.lst xs)) {i : Nat} (hi : i < xs.length) (hz : xs.length ≤ 4096) : dPop (.m c) [natD i] S = .ok xs[i] (S.set c (.lst (xs.eraseIdx i))) := by
  have e : seqIndex? (i : Int) xs.length = some i := by
    unfold seqIndex?
    simp
    omega
  have e2 : -(2 ^ 63) ≤ (i : Int) ∧ (i : Int) < 2 ^ 63 := by omega
  have e3 : xs[i]? = some xs[i] := List.getElem?_eq_getElem hi
  show (match S[c]? with
    | some (.lst xs) => if -(2 ^ 63) ≤ (i : Int) ∧ (i : Int) < 2 ^ 63 then match seqIndex? (i : Int) xs.length with
        | some j => match xs[j]? with
          | some y => R.ok y (S.set c (.lst (xs.eraseIdx j)))
          | none => .bad
        | none => .bad
      else .bad
    | _ => .bad) = _
  rw [h]
  simp only []
  rw [if_pos e2]
  simp only [e, e3]
def rgD (n : Nat) : List D := (List.range n).map fun i => natD i
theorem rg_its (n : Nat) (P : Sto → Prop) : Its (.rng 0 n) P (rgD n) := fun S _ i => by
  show some (if i < n then some (D.int (0 + i)) else none) = _
  unfold rgD
  rw [List.getElem?_map]
  by_cases h : i < n
  · rw [if_pos h, List.getElem?_range h, Int.zero_add]
    rfl
  · rw [if_neg h, List.getElem?_eq_none (by simp; omega)]
    rfl
theorem rgD_len (n : Nat) : (rgD n).length = n := by simp [rgD]
theorem src_rg (j : Nat) (hj : j ≤ 4096) (S : Sto) : rgN 1 [natD j] S = .ok (.rng 0 j) S := by
  have e : -(2 ^ 62) ≤ (j : Int) ∧ (j : Int) < 2 ^ 62 := by omega
  unfold rgN natD
  simp only [List.length_cons, List.length_nil, Nat.zero_add, if_true]
  unfold srRg
  simp only [e, and_self, if_true, Int.toNat_natCast]
theorem erase_perm : ∀ {l : List D} {i : Nat} (h : i < l.length), (l[i] :: l.eraseIdx i).Perm l
  | x :: l, 0, h => List.Perm.refl _
  | x :: l, i + 1, h => by
    have h2 : i < l.length := Nat.lt_of_succ_lt_succ h
    exact (List.Perm.swap _ _ _).trans (List.Perm.cons x (erase_perm h2))
theorem mixed_ok (k : Nat) {c N : Nat} {S : Sto} {v : D} {xs : List D} (h : Wl c (N + xs.length) S) (hv : rdOf S v = some xs) (hz : xs.length ≤ 4096) :
    ∃ (ys : List D) (S' : Sto), ys.Perm xs ∧ sem MM (k + 2) 17 [.m c, v] S = .ok (.lst ys) S' ∧ Wl c N S' ∧ Ext c S S' := by
  have hcl := h.lt
  have hlst : dList mkC [v] S = .ok (.m S.length) (S ++ [.lst xs]) := by
    show (match rdOf S v with
      | some xs => mkC xs S
      | none => _) = _
    rw [hv]
    show (if xs.length ≤ 16777216 then R.ok (D.m S.length) (S ++ [.lst xs]) else .bad) = _
    rw [if_pos (by omega)]
  have hln : dLen [.m S.length] (S ++ [.lst xs]) = .ok (natD xs.length) (S ++ [.lst xs]) := Sq.len (.inr (.inr ⟨_, rfl, get0 _ _ _⟩))
  obtain ⟨S', acc, e, left, h1, h2, h3, h4, h5, h6⟩ := lcX_inv (s := .rng 0 xs.length) (P := fun _ => True) (xs := rgD xs.length) (bn := bnN 3) (c := yes)
    (f := mthL dPop (vrb 2) (arC (clP 2 (sem MM (k + 1) 15) (arC (vrb 0) (arC (ofL dLen (arC (vrb 2) arN)) arN))) arN)) (ρ := [some (.m c), some v, some (.m S.length), none]) (rg_its _ _)
    (fun i S' acc => ∃ left, S'[S.length]? = some (.lst left) ∧ (acc ++ left).Perm xs ∧ left.length + i = xs.length ∧ acc.length = i ∧ Wl c (N + left.length) S' ∧ Ext c S S') (fun _ _ _ _ => trivial)
    (fun i S' acc ⟨left, _, _, _, h, _⟩ => Nat.le_of_eq h) (by rw [rgD_len]; omega) (fun i x S' acc hx ⟨left, h1, h2, h3, h4, h5, h6⟩ => by
      have hi : i < xs.length := by
        have := (List.getElem?_eq_some_iff.mp hx).1
        rw [rgD_len] at this
        exact this
      have hlp : 0 < left.length := by omega
      obtain ⟨r, S2, d1, d2, d3, d4⟩ := draw_ok k (N := N + left.length - 1) (by
        have : N + left.length - 1 + 1 = N + left.length := by omega
        rw [this]
        exact h5) (m := (left.length : Int)) ⟨by omega, by omega⟩
      have hr : r < left.length := by omega
      have h1' : S2[S.length]? = some (.lst left) := d4.keep h1 (by omega)
      have hp := pop_cell h1' hr (by omega)
      have hl2 : dLen [.m S.length] S' = .ok (.int left.length) S' := Sq.len (.inr (.inr ⟨_, rfl, h1⟩))
      refine ⟨_, true, S', rfl, rfl, ?_⟩
      rw [if_pos rfl]
      refine ⟨left[r], S2.set S.length (.lst (left.eraseIdx r)), ?_, left.eraseIdx r, ?_, ?_, ?_, by rw [List.length_append, h4]; rfl, ?_, (h6.trans d4).late (Nat.le_refl _)⟩
      · simp [a_km1 (li_cell h1), hl2, d1, hp]
      · rw [List.getElem?_set_self (List.getElem?_eq_some_iff.mp h1').1]
      · refine List.Perm.trans ?_ h2
        rw [List.append_assoc]
        refine List.Perm.append_left acc ?_
        exact erase_perm hr
      · rw [List.length_eraseIdx_of_lt hr]
        omega
      · rw [List.length_eraseIdx_of_lt hr]
        refine (Wl.set ?_ (by omega) _)
        exact d3.less (by omega)) (xs.length + 1) 0 (S ++ [.lst xs]) [] (Nat.zero_le _) (by rw [rgD_len]; omega) ⟨xs, get0 _ _ _, List.Perm.refl _, rfl, rfl, h.app _, Ext.app _⟩
  rw [rgD_len] at h3
  have hl0 : left = [] := List.length_eq_zero_iff.mp (by omega)
  subst hl0
  rw [List.append_nil] at h2
  refine ⟨acc, S', h2, ?_, h5, h6⟩
  have hal : acc.length ≤ 16777216 := by
    rw [h2.length_eq]
    omega
  have hlc : lcN mkL [3] (srcL (rgN 1) (arC (ofL dLen (arC (vrb 2) arN)) arN)) (bnN 3) yes (mthL dPop (vrb 2) (arC (clP 2 (sem MM (k + 1) 15) (arC (vrb 0) (arC (ofL dLen (arC (vrb 2) arN)) arN))) arN)) [some (.m c), some v, some (.m S.length), none] (S ++ [.lst xs]) = .ok (.lst acc) S' := by
    rw [a_lcN]
    simp [hln, src_rg _ hz]
    show (noex (lcX (.rng 0 xs.length) (bnN 3) yes _ _ (xs.length + 1) 0 (S ++ [.lst xs]) [])).bind mkL = _
    simp only [wipeD, List.set_cons_succ, List.set_cons_zero]
    rw [e]
    show mkL acc S' = _
    unfold mkL
    rw [if_pos hal]
  rw [s17, runF]
  simp [g17, hlst, hlc]
end K08
namespace K08
open PySem PySem.Spec PyProof.Rows L2 Ev
/-! ## _law_loose -/
mutual
theorem trB_norm : ∀ d : D, trB (norm d) = trB d
  | .lst xs => trBs_norm xs
  | .tup xs => trBs_norm xs
  | .non | .bl _ | .int _ | .str _ | .frz _ | .dct .. | .m _ | .fn _ | .cl _ | .ty _ => rfl
theorem trBs_norm : ∀ xs : List D, trBs (norms xs) = trBs xs
  | [] => rfl
  | x :: xs => by
    show (trB (norm x) && trBs (norms xs)) = _
    rw [trB_norm x, trBs_norm xs]
    rfl
end
mutual
theorem wt_norm : ∀ d : D, wt (norm d) = wt d
  | .lst xs => congrArg (· + 1) (wts_norm xs)
  | .tup xs => congrArg (· + 1) (wts_norm xs)
  | .non | .bl _ | .int _ | .str _ | .frz _ | .dct .. | .m _ | .fn _ | .cl _ | .ty _ => rfl
theorem wts_norm : ∀ xs : List D, wts (norms xs) = wts xs
  | [] => rfl
  | x :: xs => by
    show wt (norm x) + wts (norms xs) = _
    rw [wt_norm x, wts_norm xs]
    rfl
end
theorem Tr.norm {d e : D} (h : Tr d) (n : norm e = norm d) : Tr e :=
  ⟨by rw [← trB_norm, n, trB_norm]; exact h.sh, by rw [← wt_norm, n, wt_norm]; exact h.le⟩
theorem loose_flat (k : Nat) (c : Nat) {d : D} (h : flatD d = true) (S : Sto) : sem MM (k + 1) 19 [.m c, d] S = .ok d S := by
  have e1 : dIsi [d, .ty "dict"] S = .ok (.bl false) S := by
    cases d <;> first | rfl | cases h
  have e2 : dIsi [d, .tup [.ty "list", .ty "tuple"]] S = .ok (.bl false) S := by
    cases d <;> first | rfl | cases h
  rw [s19, runF]
  simp [g19, mkT, e1, e2]
theorem lc_loose {K c N : Nat} {S : Sto} {v : D} {xs : List D} (hv : Sq S v xs) (hvc : ∀ j, v = .m j → j ≠ c) (hz : xs.length ≤ 4096)
    (ih : ∀ x, x ∈ xs → ∀ N S, Wl c (N + 2 * wt x) S → ∃ e S', sem MM K 19 [.m c, x] S = .ok e S' ∧ norm e = norm x ∧ Wl c N S' ∧ Ext c S S') (h : Wl c (N + 2 * wts xs) S) :
    ∃ acc S', norms acc = norms xs ∧ acc.length = xs.length ∧ Wl c N S' ∧ Ext c S S' ∧ ∀ mk, lcN mk [3] (src1 srSq (vrb 1)) (bnN 3) yes (clP 2 (sem MM K 19) (arC (vrb 0) (arC (vrb 3) arN))) [some (.m c), some v, none, none, none] S = mk acc S' := by
  obtain ⟨S', acc, e, h1, h2, h3, h4⟩ := lcX_inv (s := .seq v) (P := fun S' => Ext c S S') (xs := xs) (bn := bnN 3) (c := yes) (f := clP 2 (sem MM K 19) (arC (vrb 0) (arC (vrb 3) arN))) (ρ := [some (.m c), some v, none, none, none])
    (sq_its (S := S) _ fun S' he => hv.ext hvc he) (fun i S' acc => acc.length = i ∧ norms acc = norms (xs.take i) ∧ Wl c (N + 2 * wts (xs.drop i)) S' ∧ Ext c S S') (fun _ _ _ h => h.2.2.2) (fun _ _ _ h => Nat.le_of_eq h.1) (by omega)
    (fun i x S' acc hx ⟨h1, h2, h3, h4⟩ => by
      have hi : i < xs.length := (List.getElem?_eq_some_iff.mp hx).1
      have hxe : xs[i] = x := (List.getElem?_eq_some_iff.mp hx).2
      have hd : xs.drop i = x :: xs.drop (i + 1) := by rw [List.drop_eq_getElem_cons hi, hxe]
      rw [hd] at h3
      have h3 : Wl c (N + 2 * (wt x + wts (xs.drop (i + 1)))) S' := h3
      obtain ⟨e, S2, e1, e2, e3, e4⟩ := ih x (List.mem_of_getElem? hx) (N + 2 * wts (xs.drop (i + 1))) S' (h3.less (by omega))
      refine ⟨_, true, S', rfl, rfl, ?_⟩
      rw [if_pos rfl]
      refine ⟨e, S2, by simp [e1], by simp [h1], ?_, e3, h4.trans e4⟩
      rw [List.take_add_one, hx]
      rw [norms_map, norms_map, List.map_append, ← norms_map acc, h2, norms_map, List.map_append]
      simp [e2])
    (xs.length + 1) 0 S [] (Nat.zero_le _) (by omega) ⟨rfl, rfl, h, Ext.refl⟩
  rw [List.take_length] at h2
  rw [List.drop_length] at h3
  refine ⟨acc, S', h2, h1, h3, h4, fun mk => ?_⟩
  rw [a_lcN]
  simp [hv.src]
  show (noex (lcX (.seq v) (bnN 3) yes _ _ ((Src.seq v).len S) 0 S [])).bind mk = _
  rw [sq_len hv]
  simp only [wipeD, List.set_cons_succ, List.set_cons_zero]
  rw [e]
  rfl
theorem perm_one {ys : List D} {x : D} (h : ys.Perm [x]) : ys = [x] := List.perm_singleton.mp h
theorem loose_dct (k c : Nat) {N : Nat} {S : Sto} (ks vs : List D) (h : Tr (.dct ks vs)) (w : Wl c (N + 2) S) : ∃ e S', sem MM (k + 4) 19 [.m c, .dct ks vs] S = .ok e S' ∧ norm e = .dct ks vs ∧ Wl c N S' ∧ Ext c S S' := by
  have e1 : dIsi [.dct ks vs, .ty "dict"] S = .ok (.bl true) S := rfl
  have hs := h.sh
  match ks, vs, hs with
  | [], [], _ =>
    obtain ⟨ys, S', h1, h2, h3, h4⟩ := mixed_ok (k + 1) (N := N) (v := .lst []) (xs := []) (w.less (by simp)) rfl (by simp)
    have h1 := List.perm_nil.mp h1
    subst h1
    have e2 : dList mkL [.dct [] []] S = .ok (.lst []) S := rfl
    have hlc := lc_pure (d := .lst []) (xs := []) (i := 4) (ρ := [some (.m c), some (.dct [] []), none, none, none]) (S := S') (fe := cst (.lst [])) (f := ofL mkT (arC (vrb 4) (arC (clP 2 (sem MM (k + 3) 19) (arC (vrb 0) (arC (bi2 dIx (vrb 1) (vrb 4)) arN))) arN))) rfl rfl (by simp) (fun d => d) (fun x hx => by cases hx)
    refine ⟨.dct [] [], S', ?_, rfl, h3, h4⟩
    have e6 : dDict [.lst []] S' = .ok (.dct [] []) S' := rfl
    rw [a_lcN] at hlc
    simp [srSq, rdOf, lstOf] at hlc
    rw [s19, runF]
    simp [g19, e1, a_lcN, e2, h2, srSq, rdOf, lstOf]
    rw [hlc]
    simp [e6]
  | [.str z], [.int i], hs =>
    obtain ⟨ys, S', h1, h2, h3, h4⟩ := mixed_ok (k + 1) (N := N) (v := .lst [.str z]) (xs := [.str z]) (w.less (by simp)) rfl (by simp)
    have h1 := perm_one h1
    subst h1
    have e2 : dList mkL [.dct [.str z] [.int i]] S = .ok (.lst [.str z]) S := rfl
    have e4 : dIx (.dct [.str z] [.int i]) (.str z) S' = .ok (.int i) S' := by
      simp [dIx, dctOf, keyOfD, dlook, keq]
    have e5 : sem MM (k + 3) 19 [.m c, .int i] S' = .ok (.int i) S' := loose_flat (k + 2) c rfl S'
    have hlc := lc_pure (d := .lst [.str z]) (xs := [.str z]) (i := 4) (ρ := [some (.m c), some (.dct [.str z] [.int i]), none, none, none]) (S := S') (fe := cst (.lst [.str z])) (f := ofL mkT (arC (vrb 4) (arC (clP 2 (sem MM (k + 3) 19) (arC (vrb 0) (arC (bi2 dIx (vrb 1) (vrb 4)) arN))) arN))) rfl rfl (by simp) (fun d => .tup [.str z, .int i]) (fun x hx => by
      rw [List.mem_singleton] at hx
      subst hx
      simp [wipeD, e4, e5, mkT])
    refine ⟨.dct [.str z] [.int i], S', ?_, rfl, h3, h4⟩
    have e6 : dDict [.lst [.tup [.str z, .int i]]] S' = .ok (.dct [.str z] [.int i]) S' := by
      simp [dDict, liOf, lstOf, prs, keyOfD, dmerge, dput]
    rw [a_lcN] at hlc
    simp [srSq, rdOf, lstOf] at hlc
    rw [s19, runF]
    simp [g19, e1, a_lcN, e2, h2, srSq, rdOf, lstOf]
    rw [hlc]
    simp [e6]
theorem loose_ok : ∀ (n : Nat) (d : D), Tr d → dpt d ≤ n → ∀ (k c N : Nat) (S : Sto), Wl c (N + 2 * wt d) S → ∃ e S', sem MM (k + n + 4) 19 [.m c, d] S = .ok e S' ∧ norm e = norm d ∧ Wl c N S' ∧ Ext c S S'
  | 0, d, _, h, _, _, _, _, _ => by
    have := dpt_pos d
    omega
  | n + 1, d, t, h, k, c, N, S, w => by
    have hsq : ∀ xs, Sq S d xs → (∀ j, d ≠ .m j) → dpts xs ≤ n → Trs xs → norm d = .tup (norms xs) → dIsi [d, .ty "dict"] S = .ok (.bl false) S → dIsi [d, .tup [.ty "list", .ty "tuple"]] S = .ok (.bl true) S → Wl c (N + 1 + 2 * wts xs) S →
        ∃ e S', sem MM (k + (n + 1) + 4) 19 [.m c, d] S = .ok e S' ∧ norm e = norm d ∧ Wl c N S' ∧ Ext c S S' := fun xs hv hm hw ht hn e1 e2 w => by
      obtain ⟨acc, S1, h1, h2, h3, h4, h5⟩ := lc_loose (K := k + n + 4) hv (fun j e => absurd e (hm j)) ht.len (fun x hx N' S' w' => loose_ok n x (ht.mem hx) (Nat.le_trans (dpts_mem hx) hw) k c N' S' w') w
      have h5 := h5 mkL
      have hl : acc.length ≤ 16777216 := by
        have := ht.len
        omega
      rw [show mkL acc S1 = .ok (.lst acc) S1 from by unfold mkL; rw [if_pos hl]] at h5
      obtain ⟨r, S2, d1, d2, d3, d4⟩ := draw_ok (k + n + 3) h3 (m := 2) (by decide)
      have d1 : sem MM (k + n + 4) 15 [.m c, .int 2] S1 = .ok (natD r) S2 := d1
      refine ⟨if r = 0 then .lst acc else .tup acc, S2, ?_, ?_, d3, h4.trans d4⟩
      · show sem MM ((k + n + 4) + 1) 19 [.m c, d] S = _
        rw [s19, runF]
        have e3 : dEq (natD r) (.int 0) S2 = .ok (.bl (r == 0)) S2 := eq_nat r 0 S2
        have e4 : dTuple [.lst acc] S2 = .ok (.tup acc) S2 := rfl
        cases hr : (r == 0) with
        | true =>
          rw [hr] at e3
          rw [if_pos (by simpa using hr)]
          simp [g19, mkT, e1, e2, h5, d1, e3]
        | false =>
          rw [hr] at e3
          rw [if_neg (by simpa using hr)]
          simp [g19, mkT, e1, e2, h5, d1, e3, e4]
      · rw [hn, ← h1]
        split <;> rfl
    cases d with
    | lst xs => exact hsq xs (.inl rfl) (fun j e => by cases e) (Nat.le_of_succ_le_succ h) t.lst rfl rfl rfl (w.less (by simp only [wt]; omega))
    | tup xs => exact hsq xs (.inr (.inl rfl)) (fun j e => by cases e) (Nat.le_of_succ_le_succ h) t.tup rfl rfl rfl (w.less (by simp only [wt]; omega))
    | dct ks vs =>
      have hp := wt_pos (.dct ks vs)
      exact loose_dct (k + (n + 1)) c ks vs t (w.less (by omega))
    | non => exact ⟨_, S, loose_flat (k + (n + 1) + 3) c rfl S, rfl, w.less (by omega), Ext.refl⟩
    | bl b => exact ⟨_, S, loose_flat (k + (n + 1) + 3) c rfl S, rfl, w.less (by omega), Ext.refl⟩
    | int i => exact ⟨_, S, loose_flat (k + (n + 1) + 3) c rfl S, rfl, w.less (by omega), Ext.refl⟩
    | str z => exact ⟨_, S, loose_flat (k + (n + 1) + 3) c rfl S, rfl, w.less (by omega), Ext.refl⟩
    | frz _ => cases t.sh
    | m _ => cases t.sh
    | fn _ => cases t.sh
    | cl _ => cases t.sh
    | ty _ => cases t.sh
end K08
namespace K08
open PySem PySem.Spec PyProof.Rows L2 Ev
/-- _law_loose, whose list is a cell -/
theorem looseK_ok (k : Nat) {d : D} (t : Tr d) (hd : dpt d ≤ 13) (c N : Nat) (S : Sto) (w : Wl c (N + 2 * wt d) S) : ∃ v e S', sem MM (k + 17) 35 [.m c, d] S = .ok v S' ∧ Rd S' v e ∧ ((∀ j, v = .m j → S.length ≤ j) ∧ ∀ xs, v ≠ .lst xs) ∧ norm e = norm d ∧ Wl c N S' ∧ Ext c S S' := by
  have hsq : ∀ xs, Sq S d xs → (∀ j, d ≠ .m j) → dpts xs ≤ 12 → Trs xs → norm d = .tup (norms xs) → dIsi [d, .ty "dict"] S = .ok (.bl false) S → dIsi [d, .tup [.ty "list", .ty "tuple"]] S = .ok (.bl true) S → Wl c (N + 1 + 2 * wts xs) S →
        ∃ v e S', sem MM (k + 17) 35 [.m c, d] S = .ok v S' ∧ Rd S' v e ∧ ((∀ j, v = .m j → S.length ≤ j) ∧ ∀ xs, v ≠ .lst xs) ∧ norm e = norm d ∧ Wl c N S' ∧ Ext c S S' := fun xs hv hm hdd ht hn e1 e2 w => by
    obtain ⟨acc, S1, h1, h2, h3, h4, h5⟩ := lc_loose (K := k + 12 + 4) hv (fun j e => absurd e (hm j)) ht.len (fun x hx N' S' w' => loose_ok 12 x (ht.mem hx) (Nat.le_trans (dpts_mem hx) hdd) k c N' S' w') w
    have h5 := h5 mkC
    have hl : acc.length ≤ 16777216 := by
      have := ht.len
      omega
    rw [show mkC acc S1 = .ok (.m S1.length) (S1 ++ [.lst acc]) from by unfold mkC; rw [if_pos hl]] at h5
    obtain ⟨r, S2, d1, d2, d3, d4⟩ := draw_ok (k + 15) (h3.app [.lst acc]) (m := 2) (by decide)
    have d1 : sem MM (k + 16) 15 [.m c, .int 2] (S1 ++ [.lst acc]) = .ok (natD r) S2 := d1
    have hc := h3.lt
    have hcell : S2[S1.length]? = some (.lst acc) := d4.keep (get0 S1 (.lst acc) []) (by omega)
    refine ⟨if r = 0 then .m S1.length else .tup acc, if r = 0 then .lst acc else .tup acc, S2, ?_, ?_, ?_, ?_, d3, (h4.trans (Ext.app _)).trans d4⟩
    · show sem MM ((k + 16) + 1) 35 [.m c, d] S = _
      rw [s35, runF]
      have e3 : dEq (natD r) (.int 0) S2 = .ok (.bl (r == 0)) S2 := eq_nat r 0 S2
      have e4 : dTuple [.m S1.length] S2 = .ok (.tup acc) S2 := Sq.tp (.inr (.inr ⟨_, rfl, hcell⟩))
      cases hr : (r == 0) with
      | true =>
        rw [hr] at e3
        rw [if_pos (by simpa using hr)]
        simp [g35, mkT, e1, e2, h5, d1, e3]
      | false =>
        rw [hr] at e3
        rw [if_neg (by simpa using hr)]
        simp [g35, mkT, e1, e2, h5, d1, e3, e4]
    · split
      · exact .inr ⟨_, acc, rfl, hcell, rfl⟩
      · exact .inl rfl
    · constructor
      · intro j e
        split at e
        · injection e with e
          rw [← e]
          exact h4.le
        · cases e
      · intro xs e
        split at e <;> cases e
    · rw [hn, ← h1]
      split <;> rfl
  have hfl : flatD d = true → ∃ v e S', sem MM (k + 17) 35 [.m c, d] S = .ok v S' ∧ Rd S' v e ∧ ((∀ j, v = .m j → S.length ≤ j) ∧ ∀ xs, v ≠ .lst xs) ∧ norm e = norm d ∧ Wl c N S' ∧ Ext c S S' := fun h => by
    have e1 : dIsi [d, .ty "dict"] S = .ok (.bl false) S := by
      cases d <;> first | rfl | cases h
    have e2 : dIsi [d, .tup [.ty "list", .ty "tuple"]] S = .ok (.bl false) S := by
      cases d <;> first | rfl | cases h
    refine ⟨d, d, S, ?_, .inl rfl, ⟨(fun j e => by subst e; cases h), (fun xs e => by subst e; cases h)⟩, rfl, w.less (by omega), Ext.refl⟩
    rw [s35, runF]
    simp [g35, mkT, e1, e2]
  cases d with
  | lst xs => exact hsq xs (.inl rfl) (fun j e => by cases e) (Nat.le_of_succ_le_succ hd) t.lst rfl rfl rfl (w.less (by simp only [wt]; omega))
  | tup xs => exact hsq xs (.inr (.inl rfl)) (fun j e => by cases e) (Nat.le_of_succ_le_succ hd) t.tup rfl rfl rfl (w.less (by simp only [wt]; omega))
  | dct ks vs =>
    have hp : 2 ≤ 2 * wt (.dct ks vs) := by
      have := wt_pos (.dct ks vs)
      omega
    obtain ⟨e, S', h1, h2, h3, h4⟩ := loose_dct (k + 13) c ks vs t (w.less (by omega : N + 2 ≤ _))
    have e35 : sem MM (k + 17) 35 [.m c, .dct ks vs] S = sem MM (k + 17) 19 [.m c, .dct ks vs] S := by
      have e1 : dIsi [.dct ks vs, .ty "dict"] S = .ok (.bl true) S := rfl
      rw [s35, s19, runF, runF]
      simp [g35, g19, e1]
      generalize lcN mkL _ _ _ _ _ _ _ = X
      cases X with
      | ok a S1 =>
        simp
        generalize dDict [a] S1 = Y
        cases Y <;> simp
      | ex _ _ _ => simp
      | bad => simp
    have hne : ∀ j, e ≠ .m j := fun j z => by
      rw [z] at h2
      cases h2
    have hne2 : ∀ xs, e ≠ .lst xs := fun xs z => by
      rw [z] at h2
      cases h2
    exact ⟨e, e, S', by rw [e35]; exact h1, .inl rfl, ⟨fun j z => absurd z (hne j), hne2⟩, h2, h3, h4⟩
  | non => exact hfl rfl
  | bl b => exact hfl rfl
  | int i => exact hfl rfl
  | str z => exact hfl rfl
  | frz _ => cases t.sh
  | m _ => cases t.sh
  | fn _ => cases t.sh
  | cl _ => cases t.sh
  | ty _ => cases t.sh
/-! ## _law_same -/
mutual
/-- v reads as the tree, all the way down -/
def RT (S : Sto) : D → D → Prop
  | .lst Ts, v => ∃ xs, (v = .lst xs ∨ ∃ c, v = .m c ∧ S[c]? = some (.lst xs)) ∧ RTs S Ts xs
  | .tup Ts, v => ∃ xs, v = .tup xs ∧ RTs S Ts xs
  | .non, v => v = .non
  | .bl b, v => v = .bl b
  | .int i, v => v = .int i
  | .str z, v => v = .str z
  | .dct ks vs, v => v = .dct ks vs
  | _, _ => False
def RTs (S : Sto) : List D → List D → Prop
  | [], xs => xs = []
  | T :: Ts, xs => ∃ x r, xs = x :: r ∧ RT S T x ∧ RTs S Ts r
end
mutual
theorem RT.refl (S : Sto) : ∀ d : D, trB d = true → RT S d d
  | .lst xs, h => ⟨xs, .inl rfl, RTs.refl S xs h⟩
  | .tup xs, h => ⟨xs, rfl, RTs.refl S xs h⟩
  | .non, _ | .bl _, _ | .int _, _ | .str _, _ | .dct .., _ => rfl
  | .frz _, h | .m _, h | .fn _, h | .cl _, h | .ty _, h => by cases h
theorem RTs.refl (S : Sto) : ∀ ds : List D, trBs ds = true → RTs S ds ds
  | [], _ => rfl
  | d :: ds, h => by
    have h : (trB d && trBs ds) = true := h
    rw [Bool.and_eq_true] at h
    exact ⟨d, ds, rfl, RT.refl S d h.1, RTs.refl S ds h.2⟩
end
theorem RTs.length {S : Sto} : ∀ {Ts xs : List D}, RTs S Ts xs → xs.length = Ts.length
  | [], _, h => by
    have h : _ = [] := h
    rw [h]
  | T :: Ts, _, ⟨x, r, e, _, h⟩ => by
    rw [e, List.length_cons, List.length_cons, h.length]
theorem RTs.at {S : Sto} : ∀ {Ts xs : List D}, RTs S Ts xs → ∀ {i : Nat} {x : D}, xs[i]? = some x → ∃ T, Ts[i]? = some T ∧ RT S T x
  | [], _, h, i, x, hx => by
    have h : _ = [] := h
    rw [h] at hx
    simp at hx
  | T :: Ts, _, ⟨y, r, e, h1, h2⟩, 0, x, hx => by
    rw [e] at hx
    exact ⟨T, rfl, by simp at hx; exact hx ▸ h1⟩
  | T :: Ts, _, ⟨y, r, e, h1, h2⟩, i + 1, x, hx => by
    rw [e] at hx
    obtain ⟨U, a, b⟩ := h2.at (i := i) (x := x) (by simpa using hx)
    exact ⟨U, by simpa using a, b⟩
theorem ne_bl (a b : Bool) (S : Sto) : dNe (.bl a) (.bl b) S = .ok (.bl (!(a == b))) S := by
  show (if SeqAt.shaped (.bool a) = true ∧ SeqAt.shaped (.bool b) = true then R.ok (D.bl (!PyData.eqv (.bool a) (.bool b))) S else .bad) = _
  rw [if_pos ⟨rfl, rfl⟩]
  rfl
theorem ty_lst {S : Sto} {v : D} {xs : List D} (h : v = .lst xs ∨ ∃ c, v = .m c ∧ S[c]? = some (.lst xs)) : tyOf S v = some "list" := by
  rcases h with rfl | ⟨c, rfl, e⟩
  · rfl
  · simp [tyOf, e]
theorem isi_ty {S : Sto} {x : D} {a t : String} (h : tyOf S x = some a) (hb : basic.contains t = true) : dIsi [x, .ty t] S = .ok (.bl (isKind a t)) S := by
  unfold dIsi
  simp only [h]
  rw [if_pos hb]
theorem isi_sq2 {S : Sto} {x : D} {a : String} (h : tyOf S x = some a) : dIsi [x, .tup [.ty "list", .ty "tuple"]] S = .ok (.bl (isKind a "list" || (isKind a "tuple" || false))) S := by
  unfold dIsi
  simp only [h]
  rfl
theorem zip_at {S : Sto} {x y : D} {xs ys : List D} (h : rdOf S x = some xs) (g : rdOf S y = some ys) (i : Nat) : (Src.zip x y).at S i = some ((List.zipWith (fun a b => D.tup [a, b]) xs ys)[i]?) := by
  unfold Src.at
  simp only [h, g, List.getElem?_zipWith]
  cases xs[i]? <;> cases ys[i]? <;> rfl
theorem same_seq (K : Nat) {S : Sto} {x y : D} {Ts xs ys : List D} (hx : rdOf S x = some xs) (hy : rdOf S y = some ys) (ht : isTup x = isTup y) (h1 : RTs S Ts xs) (h2 : RTs S Ts ys) (hz : Ts.length ≤ 4096)
    (ih : ∀ T, T ∈ Ts → ∀ a b, RT S T a → RT S T b → sem MM K 18 [a, b] S = .ok (.bl true) S) :
    lcN mkL [2, 3] (srcL srZp (arC (vrb 0) (arC (vrb 1) arN))) (bnT 2 (bnsC (bnN 2) (bnsC (bnN 3) bnsN))) yes (clP 2 (sem MM K 18) (arC (vrb 2) (arC (vrb 3) arN))) [some x, some y, none, none] S = .ok (.lst (Ts.map fun _ => .bl true)) S := by
  have hl1 := h1.length
  have hl2 := h2.length
  have hzl : (List.zipWith (fun a b => D.tup [a, b]) xs ys).length = Ts.length := by
    rw [List.length_zipWith]
    omega
  have e := lcX_pure (s := .zip x y) (xs := List.zipWith (fun a b => D.tup [a, b]) xs ys) (bn := bnT 2 (bnsC (bnN 2) (bnsC (bnN 3) bnsN))) (c := yes) (f := clP 2 (sem MM K 18) (arC (vrb 2) (arC (vrb 3) arN))) (ρ := [some x, some y, none, none]) (S := S) (zip_at hx hy) (by omega) (fun _ => true) (fun _ => .bl true) (fun z hz => by
    obtain ⟨i, hi, e⟩ := List.mem_iff_getElem.mp hz
    have hi1 : i < xs.length := by omega
    have hi2 : i < ys.length := by omega
    rw [List.getElem_zipWith] at e
    obtain ⟨T, a1, a2⟩ := h1.at (List.getElem?_eq_getElem hi1)
    obtain ⟨T', b1, b2⟩ := h2.at (List.getElem?_eq_getElem hi2)
    rw [a1] at b1
    have b1 := Option.some.inj b1
    subst b1
    have hs := ih T (List.mem_of_getElem? a1) _ _ a2 b2
    subst e
    exact ⟨[some x, some y, some xs[i], some ys[i]], rfl, rfl, fun _ => by simp [hs]⟩) (Ts.length + 1) (by omega)
  have hsr : srZp [x, y] S = .ok (.zip x y) S := by
    unfold srZp
    simp only [hx, hy]
    rw [if_pos ht]
  have hln : (Src.zip x y).len S = Ts.length + 1 := by
    show min ((rdOf S x).getD []).length ((rdOf S y).getD []).length + 1 = _
    rw [hx, hy]
    show min xs.length ys.length + 1 = _
    omega
  rw [a_lcN]
  simp [hsr]
  show (noex (lcX (.zip x y) _ yes _ _ ((Src.zip x y).len S) 0 S [])).bind mkL = _
  rw [hln]
  simp only [wipeD, List.set_cons_succ, List.set_cons_zero]
  rw [e, List.filter_eq_self.mpr (fun _ _ => rfl)]
  show mkL ((List.zipWith (fun a b => D.tup [a, b]) xs ys).map fun _ => .bl true) S = _
  have e2 : ((List.zipWith (fun a b => D.tup [a, b]) xs ys).map fun _ => D.bl true) = Ts.map fun _ => .bl true := by
    rw [List.map_const', List.map_const', hzl]
  rw [e2]
  unfold mkL
  rw [if_pos (by rw [List.length_map]; omega)]
theorem dcB_inv {ks vs : List D} (h : dcB ks vs = true) : (ks = [] ∧ vs = []) ∨ ∃ z i, ks = [.str z] ∧ vs = [.int i] ∧ PyData.strOk z = true ∧ decide (i.natAbs < 10 ^ 20) = true := by
  unfold dcB at h
  split at h
  · exact .inl ⟨rfl, rfl⟩
  · rw [Bool.and_eq_true] at h
    exact .inr ⟨_, _, rfl, rfl, h.1, h.2⟩
  · cases h
theorem eq_flat {d : D} (h : flatD d = true) (S : Sto) : dEq d d S = .ok (.bl true) S ∨ ∃ z, d = .str z := by
  cases d with
  | non => exact .inl rfl
  | bl b => exact .inl (by cases b <;> rfl)
  | int i => exact .inl (by rw [eq_int]; simp)
  | str z => exact .inr ⟨z, rfl⟩
  | _ => cases h
theorem same_ok : ∀ (n : Nat) (T : D), Tr T → dpt T ≤ n → ∀ (k : Nat) (S : Sto) (x y : D), RT S T x → RT S T y → sem MM (k + n) 18 [x, y] S = .ok (.bl true) S
  | 0, T, _, h, _, _, _, _, _, _ => by
    have := dpt_pos T
    omega
  | n + 1, T, t, h, k, S, x, y, hx, hy => by
    have hsq : ∀ Ts xs ys, rdOf S x = some xs → rdOf S y = some ys → isTup x = isTup y → RTs S Ts xs → RTs S Ts ys → dpts Ts ≤ n → Trs Ts → (∃ s, tyOf S x = some s ∧ tyOf S y = some s ∧ (s = "list" ∨ s = "tuple")) → dLen [x] S = .ok (.int Ts.length) S → dLen [y] S = .ok (.int Ts.length) S →
        sem MM (k + (n + 1)) 18 [x, y] S = .ok (.bl true) S := fun Ts xs ys h1 h2 h3 h4 h5 h6 h7 ⟨s, t1, t2, h8⟩ l1 l2 => by
      have hlc := same_seq (k + n) h1 h2 h3 h4 h5 h7.len (fun U hU a b ha hb => same_ok n U (h7.mem hU) (Nat.le_trans (dpts_mem hU) h6) k S a b ha hb)
      have hal := all_bls (fun _ : D => true) Ts S
      have hat : (Ts.all fun _ => true) = true := List.all_eq_true.mpr fun _ _ => rfl
      rw [hat] at hal
      show sem MM ((k + n) + 1) 18 [x, y] S = _
      have d1 : dIsi [y, .ty "dict"] S = .ok (.bl false) S := by
        rw [isi_ty t2 (by decide)]
        rcases h8 with rfl | rfl <;> rfl
      have d2 : dIsi [y, .tup [.ty "list", .ty "tuple"]] S = .ok (.bl true) S := by
        rw [isi_sq2 t2]
        rcases h8 with rfl | rfl <;> rfl
      have d3 : ∃ b, dIsi [x, .ty "list"] S = .ok (.bl b) S ∧ dIsi [y, .ty "list"] S = .ok (.bl b) S := ⟨_, isi_ty t1 (by decide), isi_ty t2 (by decide)⟩
      have d4 : ∃ b, dIsi [x, .ty "tuple"] S = .ok (.bl b) S ∧ dIsi [y, .ty "tuple"] S = .ok (.bl b) S := ⟨_, isi_ty t1 (by decide), isi_ty t2 (by decide)⟩
      obtain ⟨b1, d5, d6⟩ := d3
      obtain ⟨b2, d7, d8⟩ := d4
      rw [s18, runF]
      simp [g18, mkT, d1, d2, d5, d6, d7, d8, ne_bl, l1, l2, hlc, hal]
    have hfl : flatD T = true → x = T → y = T → sem MM (k + (n + 1)) 18 [x, y] S = .ok (.bl true) S := fun hf e1 e2 => by
      rw [e1, e2]
      show sem MM ((k + n) + 1) 18 [T, T] S = _
      have d1 : dIsi [T, .ty "dict"] S = .ok (.bl false) S := by
        cases T <;> first | rfl | cases hf
      have d2 : dIsi [T, .tup [.ty "list", .ty "tuple"]] S = .ok (.bl false) S := by
        cases T <;> first | rfl | cases hf
      have d3 : dIsi [T, .tup [.ty "dict", .ty "list", .ty "tuple"]] S = .ok (.bl false) S := by
        cases T <;> first | rfl | cases hf
      have d4 : ∃ b, dIsi [T, .ty "bool"] S = .ok (.bl b) S := by
        cases T <;> first | exact ⟨_, rfl⟩ | cases hf
      obtain ⟨b, d4⟩ := d4
      rw [s18, runF]
      rcases eq_flat hf S with he | ⟨z, he⟩
      · simp [g18, mkT, d1, d2, d3, d4, ne_bl, he]
      · subst he
        simp [g18, mkT, d1, d2, d3, d4, ne_bl]
    cases T with
    | lst Ts =>
      obtain ⟨xs, vx, rx⟩ := hx
      obtain ⟨ys, vy, ry⟩ := hy
      have sx : Sq S x xs := vx.elim .inl fun h => .inr (.inr h)
      have sy : Sq S y ys := vy.elim .inl fun h => .inr (.inr h)
      have nt : ∀ {v : D} {xs : List D}, (v = .lst xs ∨ ∃ c, v = .m c ∧ S[c]? = some (.lst xs)) → isTup v = false := fun h => by
        rcases h with rfl | ⟨c, rfl, _⟩ <;> rfl
      exact hsq Ts xs ys sx.rd sy.rd (by rw [nt vx, nt vy]) rx ry (Nat.le_of_succ_le_succ h) t.lst ⟨_, ty_lst vx, ty_lst vy, .inl rfl⟩ (by rw [sx.len, rx.length]) (by rw [sy.len, ry.length])
    | tup Ts =>
      obtain ⟨xs, rfl, rx⟩ := hx
      obtain ⟨ys, rfl, ry⟩ := hy
      have sx : Sq S (.tup xs) xs := .inr (.inl rfl)
      have sy : Sq S (.tup ys) ys := .inr (.inl rfl)
      exact hsq Ts xs ys sx.rd sy.rd rfl rx ry (Nat.le_of_succ_le_succ h) t.tup ⟨_, rfl, rfl, .inr rfl⟩ (by rw [sx.len, rx.length]) (by rw [sy.len, ry.length])
    | non => exact hfl rfl hx hy
    | bl b => exact hfl rfl hx hy
    | int i => exact hfl rfl hx hy
    | str z => exact hfl rfl hx hy
    | dct ks vs =>
      have hx : x = .dct ks vs := hx
      have hy : y = .dct ks vs := hy
      subst hx
      subst hy
      have d1 : dIsi [.dct ks vs, .ty "dict"] S = .ok (.bl true) S := rfl
      have key : ∀ U, dItems (.dct ks vs) S = .ok U S → Tr U → dpt U ≤ 3 → sem MM (k + (n + 1)) 18 [.dct ks vs, .dct ks vs] S = .ok (.bl true) S := fun U hU tU wU => by
        have hr := same_ok n U tU (by have h : 4 ≤ n + 1 := h; omega) k S U U (RT.refl S U tU.sh) (RT.refl S U tU.sh)
        show sem MM ((k + n) + 1) 18 _ S = _
        rw [s18, runF]
        simp [g18, d1, hU, hr]
      rcases dcB_inv t.sh with ⟨rfl, rfl⟩ | ⟨z, i, rfl, rfl, t1, t2⟩
      · exact key (.lst []) rfl ⟨rfl, by decide⟩ (by decide)
      · have tle : z.length + 8 ≤ 4096 := t.le
        exact key (.lst [.tup [.str z, .int i]]) rfl ⟨by simp [trB, trBs, t1]; simpa using t2, by simp only [wt, wts]; omega⟩ (by show max (max 1 (max 1 0) + 1) 0 + 1 ≤ 3; decide)
    | frz _ => cases t.sh
    | m _ => cases t.sh
    | fn _ => cases t.sh
    | cl _ => cases t.sh
    | ty _ => cases t.sh
end K08
namespace K08
open PySem PySem.Spec PyProof.Rows L2 Ev
/-! ## a row is what its thing reads as -/
theorem norms_nats (ns : List Nat) : norms (ns.map natD) = ns.map natD := by
  rw [norms_map, List.map_map]
  rfl
theorem form_norm_eq {d : D} {r : Row} (h : formR d = some r) : norm d = r.d := by
  have st : ∀ {q n p}, stepO q n p = some r → r.d = .tup [.str (Row.w q), n, norm p] ∧ norm n = n := fun {q n p} h => by
    unfold stepO at h
    split at h
    · split at h
      · rename_i hc
        obtain ⟨ns, e1, rfl⟩ := Option.map_eq_some_iff.mp h
        have e2 := natsO_some e1
        have e3 : norm p = .tup (ns.map natD) := by
          cases p with
          | lst xs =>
            have e2 : xs = _ := e2
            rw [norm, e2, norms_nats]
          | tup xs =>
            have e2 : xs = _ := e2
            rw [norm, e2, norms_nats]
          | _ => cases hc.2
        rw [e3]
        exact ⟨rfl, rfl⟩
      · cases h
    · cases h
  have hb : seqB d = true := by
    cases hb : seqB d with
    | true => rfl
    | false => rw [form_no hb] at h; cases h
  have hn : norm d = .tup ((itemsD d).map norm) := by
    cases d with
    | lst xs => rw [norm, norms_map]; rfl
    | tup xs => rw [norm, norms_map]; rfl
    | _ => cases hb
  rw [hn]
  unfold formR at h
  generalize itemsD d = xs at h
  unfold formX at h
  split at h
  · rename_i z rr
    unfold formL at h
    split at h
    · rename_i hz
      split at h
      · obtain ⟨a, e, rfl⟩ := Option.map_eq_some_iff.mp h
        rw [natO_some e, hz]
        rfl
      · cases h
    split at h
    · rename_i hz
      split at h
      · obtain ⟨a, e1, h⟩ := Option.bind_eq_some_iff.mp h
        obtain ⟨b, e2, h⟩ := Option.bind_eq_some_iff.mp h
        obtain ⟨c, e3, rfl⟩ := Option.map_eq_some_iff.mp h
        rw [natO_some e1, natO_some e2, natO_some e3, hz]
        rfl
      · cases h
    split at h
    · rename_i hz
      split at h
      · obtain ⟨e, e2⟩ := st h
        rw [e, hz]
        simp only [List.map_cons, List.map_nil, e2]
        rfl
      · cases h
    split at h
    · rename_i hz
      split at h
      · obtain ⟨e, e2⟩ := st h
        rw [e, hz]
        simp only [List.map_cons, List.map_nil, e2]
        rfl
      · cases h
    · cases h
  · cases h
theorem row_norm (r : Row) : norm r.d = r.d := by
  cases r with
  | given i => rfl
  | either a b c => rfl
  | step q n ps =>
    show D.tup [.str (Row.w q), .str n, .tup (norms (ps.map natD))] = _
    rw [norms_nats]
    rfl
theorem form_tr {d : D} {r : Row} (t : Tr d) (h : formR d = some r) : Tr r.d := t.norm (by rw [row_norm, form_norm_eq h])
/-! ## _law_spoiled -/
mutual
def ttB : D → Bool
  | .tup xs => ttBs xs
  | .non => true
  | .bl _ => true
  | .int _ => true
  | .str _ => true
  | _ => false
def ttBs : List D → Bool
  | [] => true
  | x :: xs => ttB x && ttBs xs
end
theorem ttBs_mem : ∀ {xs : List D}, ttBs xs = true → ∀ x, x ∈ xs → ttB x = true
  | y :: ys, h, x, hx => by
    have h : (ttB y && ttBs ys) = true := h
    rw [Bool.and_eq_true] at h
    rcases List.mem_cons.mp hx with rfl | hx
    · exact h.1
    · exact ttBs_mem h.2 x hx
theorem row_tt (r : Row) : ttB r.d = true := by
  cases r with
  | given i => rfl
  | either a b c => rfl
  | step q n ps =>
    have e : ∀ ps : List Nat, ttBs (ps.map natD) = true := fun ps => by
      induction ps with
      | nil => rfl
      | cons p ps ih => exact ih
    show (true && (true && (ttBs (ps.map natD) && true))) = true
    rw [e]
    rfl
theorem spoil_loop {K : Nat} {v : D} {xs : List D} {S : Sto} (P : Nat → Sto → Prop) (h0 : P 0 S) (hv : ∀ i S', P i S' → Sq S' v xs) (step : ∀ i x S', xs[i]? = some x → P i S' → ∃ S'', sem MM K 20 [x] S' = .ok .non S'' ∧ P (i + 1) S'') :
    ∃ S' e2, forS (src1 srSq (vrb 0)) (bnN 2) (dro (clP 1 (sem MM K 20) (arC (vrb 2) arN))) [some v, none, none] S = .ok (.nx [some v, none, e2]) S' ∧ P xs.length S' := by
  have hs := hv 0 S h0
  generalize hX : forX (.seq v) (bnN 2) (dro (clP 1 (sem MM K 20) (arC (vrb 2) arN))) (xs.length + 1) 0 [some v, none, none] S = X
  have key := forX_run hX (P := fun S' => Sq S' v xs) (xs := xs) (sq_its (S := S) _ fun S' h => h) (fun i ρ S' => P i S' ∧ ∃ e2, ρ = [some v, none, e2]) (fun _ _ => False) (fun i ρ S' h => hv i S' h.1) ⟨h0, none, rfl⟩ (Nat.lt_succ_self _) (fun i x ρ S' hx ⟨h1, e2, h2⟩ => by
    subst h2
    obtain ⟨S'', e, h3⟩ := step i x S' hx h1
    exact ⟨[some v, none, some x], rfl, .inl ⟨_, S'', by simp [e], h3, some x, rfl⟩⟩)
  rcases key with ⟨ρ', S', e, h1, e2, h2⟩ | ⟨_, _, _, h⟩
  · refine ⟨S', e2, ?_, h1⟩
    subst h2
    rw [e] at hX
    simp [hs.src, a_kfo, sq_len hs, hX]
  · exact h.elim
theorem spoil_tup {K : Nat} {xs : List D} {S : Sto} (P : Nat → Sto → Prop) (h0 : P 0 S) (step : ∀ i x S', xs[i]? = some x → P i S' → ∃ S'', sem MM K 20 [x] S' = .ok .non S'' ∧ P (i + 1) S'') : ∃ S', sem MM (K + 1) 20 [.tup xs] S = .ok .non S' ∧ P xs.length S' := by
  obtain ⟨S', e2, h1, h2⟩ := spoil_loop (v := .tup xs) P h0 (fun _ _ _ => .inr (.inl rfl)) step
  refine ⟨S', ?_, h2⟩
  have d1 : dIsi [.tup xs, .ty "dict"] S = .ok (.bl false) S := rfl
  have d2 : dIsi [.tup xs, .tup [.ty "list", .ty "tuple"]] S = .ok (.bl true) S := rfl
  have d3 : dIsi [.tup xs, .ty "list"] S' = .ok (.bl false) S' := rfl
  rw [s20, runF]
  unfold g20
  generalize forS (src1 srSq (vrb 0)) (bnN 2) (dro (clP 1 (sem MM K 20) (arC (vrb 2) arN))) = F at h1
  simp [mkT, d1, d2, h1, d3]
theorem spoil_cell {K c : Nat} {xs : List D} {S : Sto} (P : Nat → Sto → Prop) (h0 : P 0 S) (hc : ∀ i S', P i S' → S'[c]? = some (.lst xs)) (hz : xs.length ≤ 4096) (step : ∀ i x S', xs[i]? = some x → P i S' → ∃ S'', sem MM K 20 [x] S' = .ok .non S'' ∧ P (i + 1) S'') :
    ∃ S', sem MM (K + 1) 20 [.m c] S = .ok .non (S'.set c (.lst (xs ++ [.str "late9"]))) ∧ P xs.length S' := by
  obtain ⟨S', e2, h1, h2⟩ := spoil_loop (v := .m c) P h0 (fun i S' h => .inr (.inr ⟨c, rfl, hc i S' h⟩)) step
  refine ⟨S', ?_, h2⟩
  have t1 : tyOf S (.m c) = some "list" := ty_lst (.inr ⟨c, rfl, hc 0 S h0⟩)
  have t2 : tyOf S' (.m c) = some "list" := ty_lst (.inr ⟨c, rfl, hc _ S' h2⟩)
  have d1 : dIsi [.m c, .ty "dict"] S = .ok (.bl false) S := isi_ty t1 (by decide)
  have d2 : dIsi [.m c, .tup [.ty "list", .ty "tuple"]] S = .ok (.bl true) S := isi_sq2 t1
  have d3 : dIsi [.m c, .ty "list"] S' = .ok (.bl true) S' := isi_ty t2 (by decide)
  have ha := app_cell (hc _ S' h2) (by omega) (.str "late9")
  rw [s20, runF]
  unfold g20
  generalize forS (src1 srSq (vrb 0)) (bnN 2) (dro (clP 1 (sem MM K 20) (arC (vrb 2) arN))) = F at h1
  simp [mkT, d1, d2, h1, d3, a_km1 (li_cell (hc _ S' h2)), ha]
theorem row_dpt (r : Row) : dpt r.d ≤ 3 := by
  have e : ∀ ps : List Nat, dpts (ps.map natD) ≤ 1 := fun ps => by
    induction ps with
    | nil => exact Nat.zero_le _
    | cons p ps ih =>
      show max 1 (dpts (ps.map natD)) ≤ 1
      omega
  cases r with
  | given i => exact (by decide : max 1 (max 1 0) + 1 ≤ 3)
  | either a b c => exact (by decide : max 1 (max 1 (max 1 (max 1 0))) + 1 ≤ 3)
  | step q n ps =>
    have := e ps
    show max 1 (max 1 (max (dpts (ps.map natD) + 1) 0)) + 1 ≤ 3
    omega
theorem spoil_tt : ∀ (n : Nat) (d : D), ttB d = true → dpt d ≤ n → ∀ (k : Nat) (S : Sto), sem MM (k + n) 20 [d] S = .ok .non S
  | 0, d, _, h, _, _ => by
    have := dpt_pos d
    omega
  | n + 1, d, t, h, k, S => by
    have hfl : flatD d = true → sem MM (k + (n + 1)) 20 [d] S = .ok .non S := fun hf => by
      have d1 : dIsi [d, .ty "dict"] S = .ok (.bl false) S := by
        cases d <;> first | rfl | cases hf
      have d2 : dIsi [d, .tup [.ty "list", .ty "tuple"]] S = .ok (.bl false) S := by
        cases d <;> first | rfl | cases hf
      show sem MM ((k + n) + 1) 20 [d] S = _
      rw [s20, runF]
      simp [g20, mkT, d1, d2]
    cases d with
    | tup xs =>
      obtain ⟨S', h1, h2⟩ := spoil_tup (K := k + n) (xs := xs) (S := S) (fun _ S' => S' = S) rfl (fun i x S' hx e => by
        subst e
        have hm := List.mem_of_getElem? hx
        exact ⟨S', spoil_tt n x (ttBs_mem t x hm) (Nat.le_trans (dpts_mem hm) (Nat.le_of_succ_le_succ h)) k S', rfl⟩)
      subst h2
      exact h1
    | non => exact hfl rfl
    | bl _ => exact hfl rfl
    | int _ => exact hfl rfl
    | str _ => exact hfl rfl
    | lst _ => cases t
    | frz _ => cases t
    | dct _ _ => cases t
    | m _ => cases t
    | fn _ => cases t
    | cl _ => cases t
    | ty _ => cases t
theorem spoil_rows {k c : Nat} {rows : List Row} {S : Sto} (h : S[c]? = some (.lst (rows.map Row.d))) (hz : rows.length ≤ 4096) : sem MM (k + 4) 20 [.m c] S = .ok .non (S.set c (.lst (rows.map Row.d ++ [.str "late9"]))) := by
  obtain ⟨S', h1, h2⟩ := spoil_cell (K := k + 3) (xs := rows.map Row.d) (S := S) (fun _ S' => S' = S) rfl (fun i S' e => by subst e; exact h) (by rw [List.length_map]; exact hz) (fun i x S' hx e => by
    subst e
    obtain ⟨r, hr, rfl⟩ := List.mem_map.mp (List.mem_of_getElem? hx)
    exact ⟨S', spoil_tt 3 r.d (row_tt r) (row_dpt r) k S', rfl⟩)
  subst h2
  exact h1
theorem two_at {a b x : D} {i : Nat} (h : [a, b][i]? = some x) : (i = 0 ∧ x = a) ∨ (i = 1 ∧ x = b) := by
  match i, h with
  | 0, h => exact .inl ⟨rfl, by simpa using h.symm⟩
  | 1, h => exact .inr ⟨rfl, by simpa using h.symm⟩
theorem spoil_pair {k c i : Nat} {rows : List Row} {S : Sto} (h : S[c]? = some (.lst (rows.map Row.d))) (hz : rows.length ≤ 4096) : sem MM (k + 5) 20 [.tup [.m c, natD i]] S = .ok .non (S.set c (.lst (rows.map Row.d ++ [.str "late9"]))) := by
  obtain ⟨S', h1, h2⟩ := spoil_tup (K := k + 4) (xs := [.m c, natD i]) (S := S) (fun n S' => S' = if n = 0 then S else S.set c (.lst (rows.map Row.d ++ [.str "late9"]))) rfl (fun n x S' hx e => by
    rcases two_at hx with ⟨rfl, rfl⟩ | ⟨rfl, rfl⟩
    · subst e
      exact ⟨_, spoil_rows h hz, rfl⟩
    · subst e
      exact ⟨_, spoil_tt 4 (natD i) rfl (by show 1 ≤ 4; decide) k _, rfl⟩)
  subst h2
  exact h1
theorem spoil_told (k : Nat) {t r1 r2 i1 i2 : Nat} {w1 w2 : List Row} {S : Sto} (ht : S[t]? = some (.lst [.tup [.m r1, natD i1], .tup [.m r2, natD i2]])) (h1 : S[r1]? = some (.lst (w1.map Row.d))) (h2 : S[r2]? = some (.lst (w2.map Row.d)))
    (z1 : w1.length ≤ 4096) (z2 : w2.length ≤ 4096) (n1 : r1 ≠ t) (n2 : r2 ≠ t) (n3 : r1 ≠ r2) :
    ∃ S', sem MM (k + 6) 20 [.m t] S = .ok .non S' ∧ S'.length = S.length ∧ ∀ j, j ≠ t → j ≠ r1 → j ≠ r2 → S'[j]? = S[j]? := by
  let S1 := S.set r1 (.lst (w1.map Row.d ++ [.str "late9"]))
  let S2 := S1.set r2 (.lst (w2.map Row.d ++ [.str "late9"]))
  have q1 : S1[t]? = S[t]? := List.getElem?_set_ne n1
  have q2 : S2[t]? = S1[t]? := List.getElem?_set_ne n2
  have q3 : S1[r2]? = S[r2]? := List.getElem?_set_ne n3
  obtain ⟨S', e1, e2⟩ := spoil_cell (K := k + 5) (c := t) (xs := [.tup [.m r1, natD i1], .tup [.m r2, natD i2]]) (S := S) (fun n S' => S' = if n = 0 then S else if n = 1 then S1 else S2) rfl (fun n S' e => by
    subst e
    split
    · exact ht
    · split
      · rw [q1]; exact ht
      · rw [q2, q1]; exact ht) (by simp) (fun n x S' hx e => by
    rcases two_at hx with ⟨rfl, rfl⟩ | ⟨rfl, rfl⟩
    · subst e
      exact ⟨_, spoil_pair h1 z1, rfl⟩
    · subst e
      exact ⟨_, spoil_pair (S := S1) (by rw [q3]; exact h2) z2, rfl⟩)
  refine ⟨_, e1, ?_, fun j a b c => ?_⟩
  · rw [List.length_set, e2]
    show S2.length = _
    simp [S2, S1]
  · rw [List.getElem?_set_ne (Ne.symm a), e2]
    show S2[j]? = _
    rw [List.getElem?_set_ne (Ne.symm c), List.getElem?_set_ne (Ne.symm b)]
end K08
namespace K08
open PySem PySem.Spec PyProof.Rows L2 Ev
/-! ## repr of what is drawn -/
mutual
def pd : D → PyData
  | .non => .none
  | .bl b => .bool b
  | .int i => .int i
  | .str z => .str z
  | .lst xs => .list (pds xs)
  | .tup xs => .tuple (pds xs)
  | .dct ks vs => .dict ((ks.map keyPD).zip (pds vs))
  | _ => .none
def pds : List D → List PyData
  | [] => []
  | x :: xs => pd x :: pds xs
end
mutual
theorem rdR_pd (f : Nat → Option PyData) : ∀ d : D, trB d = true → rdR f d = some (pd d)
  | .lst xs, h => by
    rw [rdR, rdRs_pds f xs h]
    rfl
  | .tup xs, h => by
    rw [rdR, rdRs_pds f xs h]
    rfl
  | .dct ks vs, h => by
    rcases dcB_inv h with ⟨rfl, rfl⟩ | ⟨z, i, rfl, rfl, _⟩ <;> rfl
  | .non, _ | .bl _, _ | .int _, _ | .str _, _ => rfl
  | .frz _, h | .m _, h | .fn _, h | .cl _, h | .ty _, h => by cases h
theorem rdRs_pds (f : Nat → Option PyData) : ∀ xs : List D, trBs xs = true → rdRs f xs = some (pds xs)
  | [], _ => rfl
  | x :: xs, h => by
    have h : (trB x && trBs xs) = true := h
    rw [Bool.and_eq_true] at h
    rw [rdRs, rdR_pd f x h.1, rdRs_pds f xs h.2]
    rfl
end
theorem rdR_rd {S : Sto} (n : Nat) {v d : D} (h : Rd S v d) (t : trB d = true) : rdR (rdM S (n + 1)) v = some (pd d) := by
  rcases h with rfl | ⟨c, xs, rfl, e, rfl⟩
  · exact rdR_pd _ _ t
  · show rdM S (n + 1) c = _
    unfold rdM
    rw [e]
    show (rdRs (rdM S n) xs).map PyData.list = _
    rw [rdRs_pds _ xs t]
    rfl
theorem log_ok {n : Nat} (h : n < 10 ^ 20) : n.log2 < 67 := by
  by_cases h0 : n = 0
  · subst h0
    decide
  · exact (Nat.log2_lt h0).mpr (Nat.lt_trans h (by decide))
theorem str_short {z : Str} (h : PyData.strOk z = true) (B : Nat) : (PyData.str z).leavesShort B = true := by
  unfold PyData.strOk at h
  simp only [PyData.leavesShort, List.all_eq_true, decide_eq_true_eq]
  intro c hcm
  have := (Array.all_eq_true_iff_forall_mem.mp h) c (Array.mem_toList_iff.mp hcm)
  have this : c < 0x110000 := by simpa using this
  have e : (16 : Nat) ^ 8 = 4294967296 := by decide
  omega
theorem int_short {i : Int} (h : i.natAbs < 10 ^ 20) : (PyData.int i).leavesShort 22 = true := by
  have e := int_text_length_le10 (k := 20) (by decide) h
  simp only [PyData.leavesShort, decide_eq_true_eq]
  show (Str.ofString (toString i)).length ≤ 22
  rw [PySem.ofString_length]
  omega
theorem int_wt {i : Int} (h : i.natAbs < 10 ^ 20) : (PyData.int i).weight + 1 ≤ 70 := by
  show (if i == 0 then 0 else i.natAbs.log2 + 1) + 1 ≤ 70
  have := log_ok h
  split <;> omega
theorem int_show {i : Int} (h : i.natAbs < 10 ^ 20) : (PyData.int i).showable = true := by
  show decide (i.natAbs.log2 < 1920) = true
  have := log_ok h
  exact decide_eq_true (by omega)
structure Sh (p : PyData) (w d : Nat) : Prop where
  sb : p.showable = true
  lv : p.leavesShort 22 = true
  wt : p.weight + 1 ≤ 70 * w
  dp : p.depth ≤ d
mutual
theorem pd_sh : ∀ d : D, trB d = true → Sh (pd d) (wt d) (dpt d)
  | .lst xs, h => by
    obtain ⟨h1, h2, h3, h4⟩ := pds_sh xs h
    exact ⟨h1, h2, by show PyData.weightAll (pds xs) + 1 ≤ 70 * (wts xs + 1); omega, by show PyData.depthAll (pds xs) + 1 ≤ dpts xs + 1; omega⟩
  | .tup xs, h => by
    obtain ⟨h1, h2, h3, h4⟩ := pds_sh xs h
    exact ⟨h1, h2, by show PyData.weightAll (pds xs) + 1 ≤ 70 * (wts xs + 1); omega, by show PyData.depthAll (pds xs) + 1 ≤ dpts xs + 1; omega⟩
  | .dct ks vs, h => by
    rcases dcB_inv h with ⟨rfl, rfl⟩ | ⟨z, i, rfl, rfl, h1, h2⟩
    · exact ⟨rfl, rfl, by show 0 + 1 ≤ 70 * 2; decide, by show 0 + 1 ≤ 4; decide⟩
    · have h2 := of_decide_eq_true h2
      have e1 := int_wt h2
      refine ⟨?_, ?_, ?_, by show max (max 0 0) 0 + 1 ≤ 4; decide⟩
      · show ((PyData.str z).showable && (PyData.int i).showable && true) = true
        rw [int_show h2]
        rfl
      · show ((PyData.str z).leavesShort 22 && (PyData.int i).leavesShort 22 && true) = true
        rw [str_short h1, int_short h2]
        rfl
      · show z.cps.size + (PyData.int i).weight + 2 + 0 + 1 ≤ 70 * (z.length + 8)
        have : z.length = z.cps.size := rfl
        omega
  | .non, _ => ⟨rfl, rfl, by show 0 + 1 ≤ 70 * 1; decide, by show 0 ≤ 1; decide⟩
  | .bl _, _ => ⟨rfl, rfl, by show 0 + 1 ≤ 70 * 1; decide, by show 0 ≤ 1; decide⟩
  | .int i, h => ⟨int_show (of_decide_eq_true h), int_short (of_decide_eq_true h), by show (PyData.int i).weight + 1 ≤ 70 * 1; exact int_wt (of_decide_eq_true h), by show 0 ≤ 1; decide⟩
  | .str z, h => ⟨rfl, str_short h 22, by
      show z.cps.size + 1 ≤ 70 * (z.length + 1)
      have : z.length = z.cps.size := rfl
      omega, by show 0 ≤ 1; decide⟩
  | .frz _, h | .m _, h | .fn _, h | .cl _, h | .ty _, h => by cases h
theorem pds_sh : ∀ xs : List D, trBs xs = true → PyData.showableAll (pds xs) = true ∧ PyData.leavesShortAll 22 (pds xs) = true ∧ PyData.weightAll (pds xs) ≤ 70 * wts xs ∧ PyData.depthAll (pds xs) ≤ dpts xs
  | [], _ => ⟨rfl, rfl, Nat.zero_le _, Nat.zero_le _⟩
  | x :: xs, h => by
    have h : (trB x && trBs xs) = true := h
    rw [Bool.and_eq_true] at h
    obtain ⟨a1, a2, a3, a4⟩ := pd_sh x h.1
    obtain ⟨b1, b2, b3, b4⟩ := pds_sh xs h.2
    refine ⟨?_, ?_, ?_, ?_⟩
    · show ((pd x).showable && PyData.showableAll (pds xs)) = true
      rw [a1, b1]
      rfl
    · show ((pd x).leavesShort 22 && PyData.leavesShortAll 22 (pds xs)) = true
      rw [a2, b2]
      rfl
    · show (pd x).weight + 1 + PyData.weightAll (pds xs) ≤ 70 * (wt x + wts xs)
      omega
    · show max (pd x).depth (PyData.depthAll (pds xs)) ≤ max (dpt x) (dpts xs)
      omega
end
theorem show_ok {p : PyData} {w d : Nat} (h : Sh p w d) (hw : w ≤ 8200) (hd : d ≤ 60) : showB p = true := by
  have e := PyData.shown_le 22 (by decide) p h.lv
  have := h.wt
  have := h.dp
  unfold showB
  rw [h.sb, decide_eq_true (by omega : p.depth ≤ 60), Bool.true_and, Bool.true_and]
  exact decide_eq_true (by omega)
theorem repr_one {S : Sto} {v d : D} (h : Rd S v d) (t : Tr d) (hd : dpt d ≤ 40) : dRepr [v] S = .ok (.str (pd d).shown) S := by
  have e : rdP S v = some (pd d) := rdR_rd 2 h t.sh
  have es := show_ok (pd_sh d t.sh) (Nat.le_trans t.le (by decide)) (Nat.le_trans hd (by decide))
  unfold dRepr
  simp only [e, es, if_true]
theorem repr_two {S : Sto} {v w d e : D} (h : Rd S v d) (g : Rd S w e) (t : Tr d) (u : Tr e) (hd : dpt d ≤ 40) (he : dpt e ≤ 40) : dRepr [.lst [v, w]] S = .ok (.str (PyData.list [pd d, pd e]).shown) S := by
  have e1 : rdP S (.lst [v, w]) = some (.list [pd d, pd e]) := by
    show (((rdR (rdM S 3) v).bind fun x => ((rdR (rdM S 3) w).bind fun x => (some []).map fun xs => x :: xs).map fun xs => x :: xs)).map PyData.list = _
    rw [rdR_rd 2 h t.sh, rdR_rd 2 g u.sh]
    rfl
  have s1 := pds_sh [d, e] (by show (trB d && (trB e && true)) = true; rw [t.sh, u.sh]; rfl)
  have hw : wts [d, e] = wt d + (wt e + 0) := rfl
  have hdd : dpts [d, e] = max (dpt d) (max (dpt e) 0) := rfl
  have t1 := t.le
  have u1 := u.le
  obtain ⟨a, b, c, f⟩ := s1
  have es : showB (.list [pd d, pd e]) = true := show_ok (w := 8200) (d := 60) ⟨a, b, by show PyData.weightAll (pds [d, e]) + 1 ≤ 70 * 8200; omega, by show PyData.depthAll (pds [d, e]) + 1 ≤ 60; omega⟩ (Nat.le_refl _) (Nat.le_refl _)
  unfold dRepr
  simp only [e1, es, if_true]
mutual
theorem dpt_norm : ∀ d : D, dpt (norm d) = dpt d
  | .lst xs => congrArg (· + 1) (dpts_norm xs)
  | .tup xs => congrArg (· + 1) (dpts_norm xs)
  | .non | .bl _ | .int _ | .str _ | .frz _ | .dct .. | .m _ | .fn _ | .cl _ | .ty _ => rfl
theorem dpts_norm : ∀ xs : List D, dpts (norms xs) = dpts xs
  | [] => rfl
  | x :: xs => by
    show max (dpt (norm x)) (dpts (norms xs)) = _
    rw [dpt_norm x, dpts_norm xs]
    rfl
end
end K08
namespace K08
open PySem PySem.Spec PyProof.Rows L2 Ev
/-! ## drawn rows -/
structure SmR (r : Row) : Prop where
  good : r.good = true
  sh : trB r.d = true
  le : wt r.d ≤ 24
theorem SmR.tr {r : Row} (h : SmR r) : Tr r.d := ⟨h.sh, Nat.le_trans h.le (by decide)⟩
theorem enumD_rg (rows : List Row) : enumD (rows.map Row.d) = (List.range rows.length).map fun i => .tup [natD i, ((rows.map Row.d)[i]?).getD .non] := by
  apply List.ext_getElem?
  intro i
  rw [enumD_at]
  by_cases h : i < rows.length
  · have e : (rows.map Row.d)[i]? = some (rows[i].d) := by rw [List.getElem?_map, List.getElem?_eq_getElem h]; rfl
    have e2 : ((List.range rows.length).map fun i => D.tup [natD i, ((rows.map Row.d)[i]?).getD .non])[i]? = some (.tup [natD i, ((rows.map Row.d)[i]?).getD .non]) := by
      rw [List.getElem?_map, List.getElem?_range h]
      rfl
    rw [e2, e]
    rfl
  · rw [List.getElem?_eq_none (by simp; omega), List.getElem?_eq_none (by simp; omega)]
    rfl
theorem lc_enum {ρ : Ev.Env} {S : Sto} {a b : Nat} {fe : Ex} {v : D} {rows : List Row} (he : fe ρ S = .ok v S) (h : Sq S v (rows.map Row.d)) (hz : rows.length ≤ 4096) (c : ExB) (tb : Nat → Bool) (ha : a < ρ.length) (hab : b ≠ a)
    (hc : ∀ i r, rows[i]? = some r → c (((wipeD ρ [a, b]).set a (some (natD i))).set b (some r.d)) S = .ok (tb i) S) :
    lcN mkL [a, b] (srcL srEn (arC fe arN)) (bnT 2 (bnsC (bnN a) (bnsC (bnN b) bnsN))) c (vrb a) ρ S = .ok (.lst (((List.range rows.length).filter tb).map natD)) S := by
  have hl : (enumD (rows.map Row.d)).length = rows.length := by rw [enumD_len, List.length_map]
  let tbD : D → Bool := fun d => match d with | .tup (.int i :: _) => tb i.toNat | _ => false
  let fbD : D → D := fun d => match d with | .tup (i :: _) => i | _ => .non
  have e := lcX_pure (s := .enm v) (xs := enumD (rows.map Row.d)) (bn := bnT 2 (bnsC (bnN a) (bnsC (bnN b) bnsN))) (c := c) (f := vrb a) (ρ := wipeD ρ [a, b]) (S := S) (fun i => en_its (S := S) (fun S' => S' = S) (fun S' e => by rw [e]; exact h) S rfl i) (by omega) tbD fbD (fun x hx => by
    rw [enumD_rg] at hx
    obtain ⟨i, hi, rfl⟩ := List.mem_map.mp hx
    have hi : i < rows.length := List.mem_range.mp hi
    have e1 : rows[i]? = some rows[i] := List.getElem?_eq_getElem hi
    have e2 : ((rows.map Row.d)[i]?).getD .non = rows[i].d := by rw [List.getElem?_map, e1]; rfl
    rw [e2]
    refine ⟨((wipeD ρ [a, b]).set a (some (natD i))).set b (some rows[i].d), rfl, ?_, fun _ => ?_⟩
    · rw [hc i _ e1]
      show _ = R.ok (tb (i : Int).toNat) S
      rw [Int.toNat_natCast]
    · have e3 : (((wipeD ρ [a, b]).set a (some (natD i))).set b (some rows[i].d))[a]? = some (some (natD i)) := by
        rw [List.getElem?_set_ne hab, List.getElem?_set_self (by simpa [wipeD] using ha)]
      show (match (((wipeD ρ [a, b]).set a (some (natD i))).set b (some rows[i].d))[a]? with | some (some d) => R.ok d S | _ => R.bad) = _
      rw [e3]) (rows.length + 1) (by omega)
  have e4 : ((enumD (rows.map Row.d)).filter tbD).map fbD = ((List.range rows.length).filter tb).map natD := by
    rw [enumD_rg, List.filter_map, List.map_map]
    have f1 : (tbD ∘ fun i : Nat => D.tup [natD i, ((rows.map Row.d)[i]?).getD .non]) = tb := by
      funext i
      show tb (i : Int).toNat = tb i
      rw [Int.toNat_natCast]
    rw [f1]
    rfl
  rw [a_lcN]
  simp [he, h.en]
  show (noex (lcX (.enm v) _ c _ _ ((Src.enm v).len S) 0 S [])).bind mkL = _
  rw [en_len h, List.length_map, e, e4]
  show mkL _ S = _
  unfold mkL
  rw [if_pos (by
    rw [List.length_map]
    have := List.length_filter_le tb (List.range rows.length)
    rw [List.length_range] at this
    omega)]
def idx (rows : List Row) (a : Bool) : List Nat := (List.range rows.length).filter fun i => askAt rows i == a
theorem idx_mem {rows : List Row} {a : Bool} {i : Nat} (h : i ∈ idx rows a) : i < rows.length ∧ askAt rows i = a := by
  unfold idx at h
  rw [List.mem_filter, List.mem_range, beq_iff_eq] at h
  exact h
theorem idx_len (rows : List Row) (a : Bool) : (idx rows a).length ≤ rows.length := by
  have := List.length_filter_le (fun i => askAt rows i == a) (List.range rows.length)
  rw [List.length_range] at this
  exact this
theorem idx_nodup (rows : List Row) (a : Bool) : (idx rows a).Nodup := List.nodup_range.filter _
theorem ask_of {rows : List Row} {i : Nat} {r : Row} (h : rows[i]? = some r) : askAt rows i = r.asked := by
  unfold askAt
  rw [h]
theorem parts_ok (k : Nat) {S : Sto} {v : D} {rows : List Row} (h : Sq S v (rows.map Row.d)) (hz : rows.length ≤ 4096) : sem MM (k + 1) 27 [v] S = .ok (.lst ((idx rows false).map natD)) S := by
  rw [s27, runF]
  have e := lc_enum (ρ := [some v, none, none]) (a := 1) (b := 2) (fe := vrb 0) (by simp) h hz (unB asB (bi2 (dCo .NotEq) (bi2 dIx (vrb 2) (cst (.int 0))) (cst (.str "asked")))) (fun i => askAt rows i == false) (by simp) (by simp) (fun i r hr => by
    have e2 : decide (r.hd = "asked") = r.asked := hd_ask r
    simp [wipeD, Row.ix0, e2, ask_of hr])
  unfold g27 idx
  simp only [List.map_cons, List.map_nil, List.length_cons, List.length_nil, Nat.reduceAdd, Nat.reduceSub, List.replicate, List.cons_append, List.nil_append]
  rw [a_ret, e]
  simp
theorem ne_nil (ps : List Nat) (S : Sto) : dNe (.lst (ps.map natD)) (.lst []) S = .ok (.bl (!ps.isEmpty)) S := by
  have e : py S (.lst (ps.map natD)) = some (.list (ps.map fun p => PyData.int (p : Nat))) := by
    show (pyRs (pyM S 3) (ps.map natD)).map PyData.list = _
    rw [pyRs_map _ natD (fun p => PyData.int (p : Nat)) (fun a => rfl)]
    rfl
  have hs := shp_list (fun p : Nat => PyData.int p) 0 (by decide) ps (fun _ _ => rfl) (fun _ _ => Nat.le_refl 0)
  show (match py S (.lst (ps.map natD)), py S (.lst []) with
    | some x, some y => if SeqAt.shaped x = true ∧ SeqAt.shaped y = true then R.ok (D.bl (!PyData.eqv x y)) S else .bad
    | _, _ => .bad) = _
  rw [e]
  show (if SeqAt.shaped (.list (ps.map fun p => PyData.int (p : Nat))) = true ∧ SeqAt.shaped (.list []) = true then R.ok (D.bl (!PyData.eqvAll (ps.map fun p => PyData.int (p : Nat)) [])) S else .bad) = _
  rw [if_pos ⟨hs, rfl⟩]
  cases ps <;> rfl
theorem cut2 (a b : D) (r : List D) : cut (a :: b :: r) none (some 2) = [a, b] := by
  unfold cut
  have e : HT.sIx (a :: b :: r).length (a :: b :: r).length (some 2) = 2 := by
    rw [show (2 : Int) = ((2 : Nat) : Int) from rfl, HT.sIx_nat]
    simp
  rw [e, HT.sIx_none]
  simp
theorem natD_inj {a b : Nat} (h : natD a = natD b) : a = b := by
  injection h with h
  exact Int.ofNat.inj h
theorem small_nat {n : Nat} (h : n ≤ 4096) : trB (natD n) = true := by
  show decide ((n : Int).natAbs < 10 ^ 20) = true
  exact decide_eq_true (by omega)
theorem smalls {ps : List Nat} (h : ∀ p, p ∈ ps → p ≤ 4096) : trBs (ps.map natD) = true := by
  rw [trBs_mem]
  intro x hx
  obtain ⟨p, hp, rfl⟩ := List.mem_map.mp hx
  exact small_nat (h p hp)
theorem wts_nats (ps : List Nat) : wts (ps.map natD) = ps.length := by
  induction ps with
  | nil => rfl
  | cons p ps ih =>
    show 1 + wts (ps.map natD) = ps.length + 1
    omega
theorem so_lits : PyData.strOk "given" = true ∧ PyData.strOk "either" = true ∧ PyData.strOk "made" = true ∧ PyData.strOk "asked" = true := by decide +kernel
theorem sm_given {i : Nat} (h : i ≤ 4096) : SmR (.given i) := ⟨rfl, by
  show (PyData.strOk "given" && (trB (natD i) && true)) = true
  rw [so_lits.1, small_nat h]
  rfl, by show 5 + 1 + (1 + 0) + 1 ≤ 24; decide⟩
theorem sm_either {a b c : Nat} (h : a ≤ 4096 ∧ b ≤ 4096 ∧ c ≤ 4096) : SmR (.either a b c) := ⟨rfl, by
  show (PyData.strOk "either" && (trB (natD a) && (trB (natD b) && (trB (natD c) && true)))) = true
  rw [so_lits.2.1, small_nat h.1, small_nat h.2.1, small_nat h.2.2]
  rfl, by show 6 + 1 + (1 + (1 + (1 + 0))) + 1 ≤ 24; decide⟩
theorem w_len (q : Bool) : (Row.w q).length ≤ 5 ∧ PyData.strOk (Row.w q) = true := by
  cases q <;> decide +kernel
theorem sm_step {q : Bool} {n : Str} {ps : List Nat} (h1 : nameS n = true) (h2 : PyData.strOk n = true) (h3 : n.length ≤ 8) (h4 : ps.length ≤ 3) (h5 : ∀ p, p ∈ ps → p ≤ 4096) : SmR (.step q n ps) := ⟨by
  show (nameS n && (PyData.strOk n && decide (ps.length ≤ 4096))) = true
  rw [h1, h2, decide_eq_true (by omega)]
  rfl, by
  show (PyData.strOk (Row.w q) && (PyData.strOk n && (trBs (ps.map natD) && true))) = true
  rw [(w_len q).2, h2, smalls h5]
  rfl, by
  have e := wts_nats ps
  have := (w_len q).1
  show (Row.w q).length + 1 + (n.length + 1 + (wts (ps.map natD) + 1 + 0)) + 1 ≤ 24
  omega⟩
theorem why_given (rows : List Row) (i : Nat) : why rows (.given i) = none := rfl
theorem why_step {rows : List Row} {q : Bool} {n : Str} {ps : List Nat} (h : ∀ p, p ∈ ps → p ∈ idx rows false) : why rows (.step q n ps) = none := by
  have e1 : (Row.step q n ps).nm.any (fun i => decide (rows.length ≤ i)) = false := by
    rw [List.any_eq_false]
    intro p hp
    have := (idx_mem (h p hp)).1
    simp
    omega
  have e2 : badK rows (.step q n ps) = false := by
    show ps.any (askAt rows) = false
    rw [List.any_eq_false]
    intro p hp
    rw [(idx_mem (h p hp)).2]
    decide
  unfold why
  rw [e1, e2]
  rfl
theorem why_either {rows : List Row} {a b c : Nat} (ha : a ∈ idx rows true) (hb : b ∈ idx rows false) (hc : c ∈ idx rows false) (hn : b ≠ c) : why rows (.either a b c) = none := by
  have e1 : (Row.either a b c).nm.any (fun i => decide (rows.length ≤ i)) = false := by
    have := (idx_mem ha).1
    have := (idx_mem hb).1
    have := (idx_mem hc).1
    simp [Row.nm]
    omega
  have e2 : badK rows (.either a b c) = false := by
    show (!(askAt rows a && !askAt rows b && !askAt rows c)) = false
    rw [(idx_mem ha).2, (idx_mem hb).2, (idx_mem hc).2]
    rfl
  have e3 : alikeR (.either a b c) = false := by
    show (b == c) = false
    rw [beq_eq_false_iff_ne]
    exact hn
  unfold why
  rw [e1, e2, e3]
  rfl
theorem name_in {x : D} (h : x ∈ [D.str "f", .str "g", .str "h1", .str "t", .str "made", .str "eithera8"]) : ∃ n : Str, x = .str n ∧ nameS n = true ∧ PyData.strOk n = true ∧ n.length ≤ 8 := by
  simp only [List.mem_cons, List.not_mem_nil, or_false] at h
  rcases h with rfl | rfl | rfl | rfl | rfl | rfl <;> exact ⟨_, rfl, by decide +kernel, by decide +kernel, by decide +kernel⟩
theorem given_in {x : D} (h : x ∈ [D.int 0, .int 1, .int 2, .int 7, .int 40]) : ∃ n : Nat, x = natD n ∧ n ≤ 4096 := by
  simp only [List.mem_cons, List.not_mem_nil, or_false] at h
  rcases h with rfl | rfl | rfl | rfl | rfl
  · exact ⟨0, rfl, by decide⟩
  · exact ⟨1, rfl, by decide⟩
  · exact ⟨2, rfl, by decide⟩
  · exact ⟨7, rfl, by decide⟩
  · exact ⟨40, rfl, by decide⟩
end K08
namespace K08
open PySem PySem.Spec PyProof.Rows L2 Ev
theorem lt_int (r : Nat) (m : Int) (S : Sto) : dCo .Lt (natD r) (.int m) S = .ok (.bl (decide ((r : Int) < m))) S := id rfl
theorem sq_lst (S : Sto) (xs : List D) : Sq S (.lst xs) xs := .inl rfl
theorem no_cell {xs : List D} {c : Nat} : ∀ j, D.lst xs = .m j → j ≠ c := fun j e => by cases e
theorem ge2 {ys : List D} (h : 2 ≤ ys.length) : ∃ a b r, ys = a :: b :: r := by
  match ys, h with
  | a :: b :: r, _ => exact ⟨a, b, r, rfl⟩
/-- [pick(parts) for k in range(many)] -/
theorem lc_picks (K : Nat) {c N : Nat} {S : Sto} {ρ : Ev.Env} {ps : List Nat} {m : Nat} (hm : m ≤ 3) (hp : ps ≠ [] ∨ m = 0) (hz : ps.length ≤ 4096) (w : Wl c (N + 3) S) (h0 : ρ[0]? = some (some (.m c))) (h2 : ρ[2]? = some (some (.lst (ps.map natD)))) (h6 : ρ[6]? = some (some (natD m))) :
    ∃ (qs : List Nat) (S' : Sto), lcN mkL [11] (srcL (rgN 1) (arC (vrb 6) arN)) (bnN 11) yes (clP 2 (sem MM (K + 2) 16) (arC (vrb 0) (arC (vrb 2) arN))) ρ S = .ok (.lst (qs.map natD)) S' ∧ qs.length = m ∧ (∀ q, q ∈ qs → q ∈ ps) ∧ Wl c N S' ∧ Ext c S S' := by
  have g0 : ∀ x, ((ρ.set 11 none).set 11 x)[0]? = some (some (.m c)) := fun x => by
    rw [List.getElem?_set_ne (by decide), List.getElem?_set_ne (by decide)]
    exact h0
  have g2 : ∀ x, ((ρ.set 11 none).set 11 x)[2]? = some (some (.lst (ps.map natD))) := fun x => by
    rw [List.getElem?_set_ne (by decide), List.getElem?_set_ne (by decide)]
    exact h2
  obtain ⟨S', acc, e, qs, h1, h3, h4, h5, h7⟩ := lcX_inv (s := .rng 0 m) (P := fun _ => True) (xs := rgD m) (bn := bnN 11) (c := yes) (f := clP 2 (sem MM (K + 2) 16) (arC (vrb 0) (arC (vrb 2) arN))) (ρ := ρ.set 11 none) (rg_its _ _)
    (fun i S' acc => ∃ qs : List Nat, acc = qs.map natD ∧ qs.length = i ∧ (∀ q, q ∈ qs → q ∈ ps) ∧ Wl c (N + (3 - i)) S' ∧ Ext c S S') (fun _ _ _ _ => trivial) (fun i S' acc ⟨qs, e, h, _⟩ => by rw [e, List.length_map]; omega) (by rw [rgD_len]; omega)
    (fun i x S' acc hx ⟨qs, e1, e2, e3, e4, e5⟩ => by
      have hi : i < m := by
        have := (List.getElem?_eq_some_iff.mp hx).1
        rw [rgD_len] at this
        exact this
      have hne : ps ≠ [] := hp.resolve_right (by omega)
      obtain ⟨y, S2, p1, p2, p3, p4⟩ := pick_ok K (N := N + (3 - i) - 1) (c := c) (S := S') (by
        have : N + (3 - i) - 1 + 1 = N + (3 - i) := by omega
        rw [this]
        exact e4) (sq_lst S' (ps.map natD)) no_cell (by simpa using hne) (by rw [List.length_map]; exact hz)
      obtain ⟨q, hq, rfl⟩ := List.mem_map.mp p1
      refine ⟨_, true, S', rfl, rfl, ?_⟩
      rw [if_pos rfl]
      refine ⟨natD q, S2, ?_, qs ++ [q], by rw [e1, List.map_append]; rfl, by simp [e2], fun z hz => ?_, p3.less (by omega), e5.trans p4⟩
      · simp only [a_clP, a_arC, a_vrb, g0, g2, R.bind_ok, a_kc, a_arN, a_kn, a_kf]
        exact p2
      · rcases List.mem_append.mp hz with h | h
        · exact e3 z h
        · rw [List.mem_singleton.mp h]; exact hq)
    (m + 1) 0 S [] (Nat.zero_le _) (by rw [rgD_len]; omega) ⟨[], rfl, rfl, fun q h => (by cases h), w, Ext.refl⟩
  rw [rgD_len] at h3 h5
  refine ⟨qs, S', ?_, h3, h4, h5.less (by omega), h7⟩
  have hrg : rgN 1 [natD m] S = .ok (.rng 0 m) S := src_rg m (by omega) S
  rw [a_lcN]
  simp only [a_srcL, a_arC, a_vrb, h6, R.bind_ok, a_kc, a_arN, a_kn, hrg]
  show (noex (lcX (.rng 0 m) (bnN 11) yes _ (ρ.set 11 none) (m + 1) 0 S [])).bind mkL = _
  rw [e, h1]
  show mkL (qs.map natD) S' = _
  unfold mkL
  rw [if_pos (by rw [List.length_map]; omega)]
theorem g_row_ok (k : Nat) {c N : Nat} {S : Sto} {v : D} {rows : List Row} (h : Sq S v (rows.map Row.d)) (hvc : ∀ j, v = .m j → j ≠ c) (hz : rows.length ≤ 4096) (w : Wl c (N + 5000) S) :
    ∃ (r : Row) (S' : Sto), sem MM (k + 3) 28 [.m c, v] S = .ok r.d S' ∧ SmR r ∧ why rows r = none ∧ Wl c N S' ∧ Ext c S S' := by
  have hp : sem MM (k + 2) 27 [v] S = .ok (.lst ((idx rows false).map natD)) S := parts_ok (k + 1) h hz
  have ha := lc_enum (ρ := [some (.m c), some v, none, none, none, none, none, none, none, none, none, none]) (a := 9) (b := 10) (fe := vrb 1) (by simp) h hz (unB asB (bi2 dEq (bi2 dIx (vrb 10) (cst (.int 0))) (cst (.str "asked")))) (fun i => askAt rows i == true) (by simp) (by simp) (fun i r hr => by
    have e2 : decide (r.hd = "asked") = r.asked := hd_ask r
    simp [wipeD, Row.ix0, e2, ask_of hr])
  have ha : lcN mkL [9, 10] (srcL srEn (arC (vrb 1) arN)) (bnT 2 (bnsC (bnN 9) (bnsC (bnN 10) bnsN))) (unB asB (bi2 dEq (bi2 dIx (vrb 10) (cst (.int 0))) (cst (.str "asked")))) (vrb 9) [some (.m c), some v, none, none, none, none, none, none, none, none, none, none] S = .ok (.lst ((idx rows true).map natD)) S := ha
  have lp := idx_len rows false
  have la := idx_len rows true
  obtain ⟨way, S1, d1, d2, d3, d4⟩ := draw_ok (k + 1) (N := N + 4999) (w.less (by omega)) (m := 12) (by decide)
  have d1 : sem MM (k + 2) 15 [.m c, .int 12] S = .ok (natD way) S1 := d1
  have q0 : dEq (natD way) (.int 0) S1 = .ok (.bl (way == 0)) S1 := eq_nat way 0 S1
  have hlen : dLen [.lst ((idx rows false).map natD)] S1 = .ok (.int (idx rows false).length) S1 := by
    rw [(sq_lst S1 _).len, List.length_map]
  have hne : ∀ S, dNe (.lst ((idx rows true).map natD)) (.lst []) S = .ok (.bl (!(idx rows true).isEmpty)) S := ne_nil _
  have hne2 : ∀ S, dNe (.lst ((idx rows false).map natD)) (.lst []) S = .ok (.bl (!(idx rows false).isEmpty)) S := ne_nil _
  have hg5 : mkL [D.int 0, .int 1, .int 2, .int 7, .int 40] S1 = .ok (.lst [D.int 0, .int 1, .int 2, .int 7, .int 40]) S1 := rfl
  have hg6 : mkL [D.str "f", .str "g", .str "h1", .str "t", .str "made", .str "eithera8"] S1 = .ok (.lst [D.str "f", .str "g", .str "h1", .str "t", .str "made", .str "eithera8"]) S1 := rfl
  have hg0 : ∀ S, mkL [] S = .ok (.lst []) S := fun S => rfl
  have hgt : dCo .Gt (.int (idx rows false).length) (.int 1) S1 = .ok (.bl (decide ((1 : Int) < (idx rows false).length))) S1 := rfl
  by_cases hw : way = 0
  · -- given
    obtain ⟨x, S2, p1, p2, p3, p4⟩ := pick_ok k (N := N + 4998) (d3.less (by omega)) (sq_lst S1 [D.int 0, .int 1, .int 2, .int 7, .int 40]) no_cell (by simp) (by simp)
    obtain ⟨n, rfl, hn⟩ := given_in p1
    refine ⟨.given n, S2, ?_, sm_given hn, rfl, p3.less (by omega), d4.trans p4⟩
    have q0 : dEq (natD way) (.int 0) S1 = .ok (.bl true) S1 := by rw [q0, hw]; rfl
    rw [s28, runF]
    simp [g28, hp, ha, mkT, d1, q0, hg5, p2]
    rfl
  · have q0 : dEq (natD way) (.int 0) S1 = .ok (.bl false) S1 := by rw [q0, show (way == 0) = false from by simpa using hw]
    -- what follows where it is no either
    have rest : ∀ X : Bool, (X = true → ∃ (r : Row) (S' : Sto), sem MM (k + 3) 28 [.m c, v] S = .ok r.d S' ∧ SmR r ∧ why rows r = none ∧ Wl c N S' ∧ Ext c S S') →
        (andB (unB asB (bi2 (dCo .Lt) (vrb 4) (cst (.int 4)))) (andB (unB asB (bi2 (dCo .Gt) (ofL dLen (arC (vrb 2) arN)) (cst (.int 1)))) (unB asB (bi2 (dCo .NotEq) (vrb 3) (ofL mkL arN))))) [some (.m c), some v, some (.lst ((idx rows false).map natD)), some (.lst ((idx rows true).map natD)), some (natD way), none, none, none, none, none, none, none] S1 = .ok X S1 →
        ∃ (r : Row) (S' : Sto), sem MM (k + 3) 28 [.m c, v] S = .ok r.d S' ∧ SmR r ∧ why rows r = none ∧ Wl c N S' ∧ Ext c S S' := fun X hX hc => by
      cases X with
      | true => exact hX rfl
      | false =>
        obtain ⟨x, S2, p1, p2, p3, p4⟩ := pick_ok k (N := N + 4998) (d3.less (by omega)) (sq_lst S1 [D.str "f", .str "g", .str "h1", .str "t", .str "made", .str "eithera8"]) no_cell (by simp) (by simp)
        obtain ⟨n, rfl, n1, n2, n3⟩ := name_in p1
        have p2 : sem MM (k + 2) 16 [.m c, .lst [D.str "f", .str "g", .str "h1", .str "t", .str "made", .str "eithera8"]] S1 = .ok (.str n) S2 := p2
        obtain ⟨m, S3, hmany, m1, m2, m3, m4⟩ : ∃ (m : Nat) (S3 : Sto), ifE (unB asB (bi2 (dCo .NotEq) (vrb 2) (ofL mkL arN))) (clP 2 (sem MM (k + 2) 15) (arC (vrb 0) (arC (cst (.int 4)) arN))) (cst (.int 0)) [some (.m c), some v, some (.lst ((idx rows false).map natD)), some (.lst ((idx rows true).map natD)), some (natD way), some (.str n), none, none, none, none, none, none] S2 = .ok (natD m) S3 ∧ m ≤ 3 ∧ (idx rows false ≠ [] ∨ m = 0) ∧ Wl c (N + 4997) S3 ∧ Ext c S2 S3 := by
          cases hi : idx rows false with
          | nil =>
            rw [hi] at hne2
            have hne2 := hne2 S2
            refine ⟨0, S2, ?_, by decide, .inr rfl, p3.less (by omega), Ext.refl⟩
            have e : dNe (.lst []) (.lst []) S2 = .ok (.bl false) S2 := hne2
            simp [hg0, e]
            rfl
          | cons a l =>
            rw [hi] at hne2
            have hne2 := hne2 S2
            obtain ⟨m, S3, b1, b2, b3, b4⟩ := draw_ok (k + 1) (N := N + 4997) (p3.less (by omega)) (m := 4) (by decide)
            have b1 : sem MM (k + 2) 15 [.m c, .int 4] S2 = .ok (natD m) S3 := b1
            have e : dNe (.lst (natD a :: l.map natD)) (.lst []) S2 = .ok (.bl true) S2 := hne2
            refine ⟨m, S3, ?_, by omega, .inl (by simp), b3, b4⟩
            simp [hg0, e, b1]
        obtain ⟨qs, S4, l1, l2, l3, l4, l5⟩ := lc_picks k (ρ := [some (.m c), some v, some (.lst ((idx rows false).map natD)), some (.lst ((idx rows true).map natD)), some (natD way), some (.str n), some (natD m), none, none, none, none, none]) (N := N + 4994) m1 m2 (by omega) m3 rfl rfl rfl
        refine ⟨.step (decide ((way : Int) < 6)) n qs, S4, ?_, sm_step n1 n2 n3 (by omega) (fun p hpm => by
          have := (idx_mem (l3 p hpm)).1
          omega), why_step l3, l4.less (by omega), ((d4.trans p4).trans m4).trans l5⟩
        have e4 : dTuple [.lst (qs.map natD)] S4 = .ok (.tup (qs.map natD)) S4 := rfl
        have e5 : dCo .Lt (natD way) (.int 6) S4 = .ok (.bl (decide ((way : Int) < 6))) S4 := rfl
        rw [s28, runF]
        unfold g28
        generalize andB (unB asB (bi2 (dCo .Lt) (vrb 4) (cst (.int 4)))) (andB (unB asB (bi2 (dCo .Gt) (ofL dLen (arC (vrb 2) arN)) (cst (.int 1)))) (unB asB (bi2 (dCo .NotEq) (vrb 3) (ofL mkL arN)))) = F at hc ⊢
        generalize ifE (unB asB (bi2 (dCo .NotEq) (vrb 2) (ofL mkL arN))) (clP 2 (sem MM (k + 2) 15) (arC (vrb 0) (arC (cst (.int 4)) arN))) (cst (.int 0)) = F2 at hmany ⊢
        generalize lcN mkL [11] (srcL (rgN 1) (arC (vrb 6) arN)) (bnN 11) yes (clP 2 (sem MM (k + 2) 16) (arC (vrb 0) (arC (vrb 2) arN))) = F3 at l1 ⊢
        cases hq : decide ((way : Int) < 6) with
        | true =>
          rw [hq] at e5
          simp [hp, ha, mkT, d1, q0, hc, hg6, p2, hmany, l1, e4, e5]
          rfl
        | false =>
          rw [hq] at e5
          simp [hp, ha, mkT, d1, q0, hc, hg6, p2, hmany, l1, e4, e5]
          rfl
    have e1 : dCo .Lt (natD way) (.int 4) S1 = .ok (.bl (decide ((way : Int) < 4))) S1 := rfl
    cases c1 : decide ((way : Int) < 4) with
    | false => exact rest false (fun e => by cases e) (by rw [c1] at e1; simp [e1])
    | true =>
      cases c2 : decide ((1 : Int) < (idx rows false).length) with
      | false => exact rest false (fun e => by cases e) (by rw [c1] at e1; rw [c2] at hgt; simp [e1, hlen, hgt])
      | true =>
        have hne := hne S1
        cases c3 : (idx rows true).isEmpty with
        | true => exact rest false (fun e => by cases e) (by rw [c1] at e1; rw [c2] at hgt; rw [c3] at hne; simp [e1, hlen, hgt, hg0, hne])
        | false =>
          rw [c1] at e1
          rw [c2] at hgt
          rw [c3] at hne
          have hcnd : (andB (unB asB (bi2 (dCo .Lt) (vrb 4) (cst (.int 4)))) (andB (unB asB (bi2 (dCo .Gt) (ofL dLen (arC (vrb 2) arN)) (cst (.int 1)))) (unB asB (bi2 (dCo .NotEq) (vrb 3) (ofL mkL arN))))) [some (.m c), some v, some (.lst ((idx rows false).map natD)), some (.lst ((idx rows true).map natD)), some (natD way), none, none, none, none, none, none, none] S1 = .ok true S1 := by
            simp [e1, hlen, hgt, hg0, hne]
          refine rest true (fun _ => ?_) hcnd
          have c2 := of_decide_eq_true c2
          obtain ⟨ys, S2, y1, y2, y3, y4⟩ := mixed_ok k (N := N + 900) (c := c) (S := S1) (v := .lst ((idx rows false).map natD)) (xs := (idx rows false).map natD) (d3.less (by rw [List.length_map]; omega)) rfl (by rw [List.length_map]; omega)
          have yl : ys.length = (idx rows false).length := by rw [y1.length_eq, List.length_map]
          obtain ⟨a, b, r, rfl⟩ := ge2 (ys := ys) (by omega)
          have nd : (a :: b :: r).Nodup := y1.nodup_iff.mpr ((idx_nodup rows false).map (f := natD) (fun _ _ hne e => hne (natD_inj e)))
          have hab : a ≠ b := fun e => by
            rw [List.nodup_cons] at nd
            exact nd.1 (by rw [e]; exact List.mem_cons_self)
          obtain ⟨i, hi, rfl⟩ := List.mem_map.mp (y1.mem_iff.mp (show a ∈ a :: b :: r from List.mem_cons_self))
          obtain ⟨j, hj, rfl⟩ := List.mem_map.mp (y1.mem_iff.mp (show b ∈ natD i :: b :: r from List.mem_cons_of_mem _ List.mem_cons_self))
          have hte : idx rows true ≠ [] := fun e => by rw [e] at c3; cases c3
          obtain ⟨x, S3, p1, p2, p3, p4⟩ := pick_ok k (N := N) (c := c) (S := S2) (y3.less (by omega)) (sq_lst S2 ((idx rows true).map natD)) no_cell (by simpa using hte) (by rw [List.length_map]; omega)
          obtain ⟨q, hq, rfl⟩ := List.mem_map.mp p1
          have hsl : dSl (.lst (natD i :: natD j :: r)) none (some 2) S2 = .ok (.lst [natD i, natD j]) S2 := by
            show R.ok (D.lst (cut (natD i :: natD j :: r) none (some 2))) S2 = _
            rw [cut2]
          have x1 : dIx (.lst [natD i, natD j]) (.int 0) S3 = .ok (natD i) S3 := rfl
          have x2 : dIx (.lst [natD i, natD j]) (.int 1) S3 = .ok (natD j) S3 := rfl
          have := (idx_mem hi).1
          have := (idx_mem hj).1
          have := (idx_mem hq).1
          refine ⟨.either q i j, S3, ?_, sm_either ⟨by omega, by omega, by omega⟩, why_either hq hi hj (fun e => hab (by rw [e])), p3, (d4.trans y4).trans p4⟩
          rw [s28, runF]
          unfold g28
          generalize andB (unB asB (bi2 (dCo .Lt) (vrb 4) (cst (.int 4)))) (andB (unB asB (bi2 (dCo .Gt) (ofL dLen (arC (vrb 2) arN)) (cst (.int 1)))) (unB asB (bi2 (dCo .NotEq) (vrb 3) (ofL mkL arN)))) = F at hcnd ⊢
          simp [hp, ha, mkT, d1, q0, hcnd, y2, hsl, p2, x1, x2]
          rfl
end K08
namespace K08
open PySem PySem.Spec PyProof.Rows L2 Ev
/-! ## what is told as a tree -/
mutual
theorem cln_tree (n : Nat) : ∀ d : D, trB d = true → cln n d = true
  | .lst xs, h => clns_tree n xs h
  | .tup xs, h => clns_tree n xs h
  | .dct ks vs, h => by
    rcases dcB_inv h with ⟨rfl, rfl⟩ | ⟨z, i, rfl, rfl, _⟩ <;> rfl
  | .non, _ | .bl _, _ | .int _, _ | .str _, _ => rfl
  | .frz _, h | .m _, h | .fn _, h | .cl _, h | .ty _, h => by cases h
theorem clns_tree (n : Nat) : ∀ xs : List D, trBs xs = true → clns n xs = true
  | [], _ => rfl
  | x :: xs, h => by
    have h : (trB x && trBs xs) = true := h
    rw [Bool.and_eq_true] at h
    show (cln n x && clns n xs) = true
    rw [cln_tree n x h.1, clns_tree n xs h.2]
    rfl
end
def Cl (S : Sto) : Prop := ∀ o, o ∈ S → obC S.length o = true
/-- the state where a law's turn stands: the well's cell c, all of it clean -/
structure Lw (c N : Nat) (S : Sto) : Prop where
  w : Wl c N S
  cl : Cl S
section
variable {c N : Nat} {S S1 : Sto}
theorem Lw.fz (h : Cl S) (e : Ext c S S1) (w : Wl c N S1) (hc : c < S.length) : (S1.take S.length).all (obC S.length) = true := by
  rw [List.all_eq_true]
  intro o ho
  obtain ⟨j, hj, q⟩ := List.mem_iff_getElem.mp ho
  have hj2 : j < S.length := by
    rw [List.length_take] at hj
    omega
  have hj3 : j < S1.length := Nat.lt_of_lt_of_le hj2 e.le
  rw [List.getElem_take] at q
  by_cases hjc : j = c
  · obtain ⟨a, b, n, w1, _⟩ := w
    subst hjc
    rw [List.getElem?_eq_getElem hj3, q] at w1
    rw [Option.some.inj w1]
    rfl
  · have := e.at_ j hj2 hjc
    rw [List.getElem?_eq_getElem hj3, q, List.getElem?_eq_getElem hj2] at this
    have := Option.some.inj this
    rw [this]
    exact h _ (List.getElem_mem hj2)
theorem take_len (e : Ext c S S1) : (S1.take S.length).length = S.length := by
  rw [List.length_take]
  have := e.le
  omega
theorem take_ext (e : Ext c S S1) : Ext c S (S1.take S.length) := ⟨by rw [take_len e]; exact Nat.le_refl _, fun j hj hc => by
  rw [List.getElem?_take_of_lt hj]
  exact e.at_ j hj hc⟩
theorem take_lw (h : Cl S) (e : Ext c S S1) (w : Wl c N S1) (hc : c < S.length) : Lw c N (S1.take S.length) := by
  refine ⟨?_, fun o ho => ?_⟩
  · obtain ⟨a, b, n, w1, w2⟩ := w
    exact ⟨a, b, n, by rw [List.getElem?_take_of_lt hc]; exact w1, w2⟩
  · rw [take_len e]
    exact List.all_eq_true.mp (Lw.fz h e w hc) o ho
theorem fz_tree (h : Cl S) (e : Ext c S S1) (w : Wl c N S1) (hc : c < S.length) {d : D} (t : trB d = true) : fzR S.length (.ok d S1) = .ok d (S1.take S.length) := by
  unfold fzR
  simp only []
  rw [if_pos (Lw.fz h e w hc)]
  unfold fzD
  rw [if_pos (cln_tree _ d t)]
theorem fz_cell (h : Cl S) (e : Ext c S S1) (w : Wl c N S1) (hc : c < S.length) {j : Nat} {xs : List D} (hj : S.length ≤ j) (hx : S1[j]? = some (.lst xs)) (t : trBs xs = true) : fzR S.length (.ok (.m j) S1) = .ok (.lst xs) (S1.take S.length) := by
  unfold fzR
  simp only []
  rw [if_pos (Lw.fz h e w hc)]
  unfold fzD
  have e1 : cln S.length (.m j) = false := decide_eq_false (by omega)
  rw [e1]
  simp only [hx, clns_tree _ xs t, if_true]
  rfl
end
theorem ext_cell {S : Sto} {c : Nat} {xs ys : List D} (h : S[c]? = some (.lst xs)) (hz : xs.length + ys.length ≤ 16777216) : dExt (.m c) [.lst ys] S = .ok .non (S.set c (.lst (xs ++ ys))) := by
  unfold dExt
  simp only [h, lstOf]
  rw [if_pos hz]
/-- a drawn web -/
structure DW (rows : List Row) : Prop where
  web : Web rows
  sm : ∀ r, r ∈ rows → SmR r
theorem DW.ok {rows : List Row} (h : DW rows) : RowsOk rows := fun r hr => (h.sm r hr).good
theorem DW.sh {rows : List Row} (h : DW rows) : trBs (rows.map Row.d) = true := by
  rw [trBs_mem]
  intro x hx
  obtain ⟨r, hr, rfl⟩ := List.mem_map.mp hx
  exact (h.sm r hr).sh
theorem sm_wts : ∀ {rows : List Row}, (∀ r, r ∈ rows → SmR r) → wts (rows.map Row.d) ≤ 24 * rows.length
  | [], _ => Nat.le_refl 0
  | r :: rows, h => by
    have h1 := (h r List.mem_cons_self).le
    have h2 := sm_wts (rows := rows) fun x hx => h x (List.mem_cons_of_mem _ hx)
    show wt r.d + wts (rows.map Row.d) ≤ 24 * (rows.length + 1)
    omega
theorem g_drawn_ok (k : Nat) {c N : Nat} {S : Sto} (h : Lw c (N + 80000) S) : ∃ (rows : List Row) (S' : Sto), sem MM (k + 4) 29 [.m c, .int 14] S = .ok (.lst (rows.map Row.d)) S' ∧ DW rows ∧ rows.length ≤ 14 ∧ Lw c N S' ∧ S'.length = S.length ∧ Ext c S S' := by
  have hc := h.w.lt
  obtain ⟨m, S1, d1, d2, d3, d4⟩ := draw_ok (k + 2) (N := N + 79000) ((h.w.app [.lst []]).less (by omega)) (m := 15) (by decide)
  have d1 : sem MM (k + 3) 15 [.m c, .int 15] (S ++ [.lst []]) = .ok (natD m) S1 := d1
  have hl1 : S.length < S1.length := by
    have := d4.le
    simp at this
    omega
  have c1 : S1[S.length]? = some (.lst []) := d4.keep (get0 S (.lst []) []) (by omega)
  have e1 : Ext c S S1 := (Ext.app _).trans d4
  have hrg : rgN 1 [natD m] S1 = .ok (.rng 0 m) S1 := src_rg m (by omega) S1
  rw [s29, runT]
  simp [g29, mkC, d1, hrg, a_kfo]
  show ∃ rows S', fzR S.length (endR ((forX (.rng 0 m) (bnN 3) _ (m + 1) 0 _ S1).bind _)) = _ ∧ _
  generalize hX : forX _ _ _ _ _ _ _ = X
  have key := forX_run hX (P := fun _ => True) (xs := rgD m) (rg_its _ _)
    (fun i ρ S' => ∃ rows e3 e4, ρ = [some (.m c), some (.int 14), some (.m S.length), e3, e4] ∧ S'[S.length]? = some (.lst (rows.map Row.d)) ∧ DW rows ∧ rows.length ≤ i ∧ i ≤ 14 ∧ Wl c (N + (15 - i) * 5000) S' ∧ Ext c S S')
    (fun _ _ => False) (fun _ _ _ _ => trivial) ⟨[], none, none, rfl, c1, ⟨.nil, fun r h => (by cases h)⟩, Nat.le_refl _, by omega, d3.less (by omega), e1⟩ (by rw [rgD_len]; exact Nat.lt_succ_self _)
    (fun i x ρ S' hx ⟨rows, e3, e4, h1, h2, h3, h4, h5, h6, h7⟩ => by
      have hi : i < m := by
        have := (List.getElem?_eq_some_iff.mp hx).1
        rw [rgD_len] at this
        exact this
      subst h1
      refine ⟨_, rfl, .inl ?_⟩
      have hsq : Sq S' (.m S.length) (rows.map Row.d) := .inr (.inr ⟨_, rfl, h2⟩)
      obtain ⟨r, S2, r1, r2, r3, r4, r5⟩ := g_row_ok k (N := N + (15 - (i + 1)) * 5000) (c := c) hsq (fun j e => by injection e with e; omega) (by omega) (h6.less (by
        have : 15 - i = (15 - (i + 1)) + 1 := by omega
        rw [this, Nat.add_mul]
        omega))
      have h2' : S2[S.length]? = some (.lst (rows.map Row.d)) := r5.keep h2 (by omega)
      have hin := in_rows true (.inr ⟨_, rfl, h2'⟩) h3.ok r2.good
      simp only [if_true] at hin
      by_cases hm : r ∈ rows
      · rw [decide_eq_true hm] at hin
        have hx2 := ext_cell h2' (ys := []) (by simp; omega)
        rw [List.append_nil] at hx2
        refine ⟨_, S2.set S.length (.lst (rows.map Row.d)), ?_, rows, some x, some r.d, rfl, List.getElem?_set_self (List.getElem?_eq_some_iff.mp h2').1, h3, by omega, by omega, Wl.set r4 (by omega) _, (h7.trans r5).late (Nat.le_refl _)⟩
        simp [r1, a_km1 (li_cell h2'), hin, mkL, hx2]
      · rw [decide_eq_false hm] at hin
        have hx2 := ext_cell h2' (ys := [r.d]) (by simp; omega)
        refine ⟨_, S2.set S.length (.lst ((rows ++ [r]).map Row.d)), ?_, rows ++ [r], some x, some r.d, rfl, List.getElem?_set_self (List.getElem?_eq_some_iff.mp h2').1, ⟨.snoc h3.web r2.good r3 hm, fun z hz => ?_⟩, by simp; omega, by omega, Wl.set r4 (by omega) _, (h7.trans r5).late (Nat.le_refl _)⟩
        · simp [r1, a_km1 (li_cell h2'), hin, mkL, hx2]
        · rcases List.mem_append.mp hz with z1 | z1
          · exact h3.sm z z1
          · rw [List.mem_singleton.mp z1]; exact r2)
  rcases key with ⟨ρ', S', e, rows, e3, e4, h1, h2, h3, h4, h5, h6, h7⟩ | ⟨_, _, _, h⟩
  · subst e
    subst h1
    rw [rgD_len] at h4 h6
    have hf := fz_cell h.cl h7 h6 hc (Nat.le_refl _) h2 h3.sh
    refine ⟨rows, S'.take S.length, ?_, h3, by omega, take_lw h.cl h7 (h6.less (by omega)) hc, take_len h7, take_ext h7⟩
    simp [hf]
  · exact h.elim
end K08
namespace K08
open PySem PySem.Spec PyProof.Rows L2 Ev
/-! ## bent rows -/
structure BX (w d : Nat) (x : D) : Prop where
  sh : trB x = true
  le : wt x ≤ w
  dp : dpt x ≤ d
structure BL (w d : Nat) (xs : List D) : Prop where
  sh : trBs xs = true
  le : wts xs ≤ w
  dp : dpts xs ≤ d
section
variable {w w' d d' : Nat} {x : D} {xs ys : List D}
theorem BX.up (h : BX w d x) (a : w ≤ w') (b : d ≤ d') : BX w' d' x := ⟨h.sh, Nat.le_trans h.le a, Nat.le_trans h.dp b⟩
theorem BL.up (h : BL w d xs) (a : w ≤ w') (b : d ≤ d') : BL w' d' xs := ⟨h.sh, Nat.le_trans h.le a, Nat.le_trans h.dp b⟩
theorem BX.tup (h : BL w d xs) : BX (w + 1) (d + 1) (.tup xs) := ⟨h.sh, Nat.succ_le_succ h.le, Nat.succ_le_succ h.dp⟩
theorem BX.lst (h : BL w d xs) : BX (w + 1) (d + 1) (.lst xs) := ⟨h.sh, Nat.succ_le_succ h.le, Nat.succ_le_succ h.dp⟩
theorem BL.nil : BL 0 d [] := ⟨rfl, Nat.le_refl _, Nat.zero_le _⟩
theorem BL.cons (h : BX w d x) (t : BL w' d xs) : BL (w + w') d (x :: xs) := ⟨by
  show (trB x && trBs xs) = true
  rw [h.sh, t.sh]
  rfl, by
  show wt x + wts xs ≤ _
  have := h.le
  have := t.le
  omega, by
  show max (dpt x) (dpts xs) ≤ d
  have := h.dp
  have := t.dp
  omega⟩
theorem BL.head (h : BL w d (x :: xs)) : BX w d x := ⟨by
  have e : (trB x && trBs xs) = true := h.sh
  rw [Bool.and_eq_true] at e
  exact e.1, by
  have e : wt x + wts xs ≤ w := h.le
  omega, by
  have e : max (dpt x) (dpts xs) ≤ d := h.dp
  omega⟩
theorem BL.tail (h : BL w d (x :: xs)) : BL w d xs := ⟨by
  have e : (trB x && trBs xs) = true := h.sh
  rw [Bool.and_eq_true] at e
  exact e.2, by
  have e : wt x + wts xs ≤ w := h.le
  omega, by
  have e : max (dpt x) (dpts xs) ≤ d := h.dp
  omega⟩
theorem BL.app : ∀ {xs : List D} {w : Nat}, BL w d xs → BL w' d ys → BL (w + w') d (xs ++ ys)
  | [], w, _, t => t.up (Nat.le_add_left _ _) (Nat.le_refl _)
  | x :: xs, w, h, t => by
    have e : wt x + wts xs ≤ w := h.le
    have h1 : BX (wt x) d x := ⟨h.head.sh, Nat.le_refl _, h.head.dp⟩
    have h2 : BL (wts xs) d xs := ⟨h.tail.sh, Nat.le_refl _, h.tail.dp⟩
    exact (BL.cons h1 (BL.app h2 t)).up (by omega) (Nat.le_refl _)
theorem BL.drop : ∀ {xs : List D} (n : Nat), BL w d xs → BL w d (xs.drop n)
  | _, 0, h => h
  | [], _ + 1, h => h
  | x :: xs, n + 1, h => BL.drop n h.tail
theorem BL.take : ∀ {xs : List D} {w : Nat} (n : Nat), BL w d xs → BL w d (xs.take n)
  | _, w, 0, h => by
    rw [List.take_zero]
    exact BL.nil.up (Nat.zero_le _) (Nat.le_refl _)
  | [], w, _ + 1, h => h
  | x :: xs, w, n + 1, h => by
    have e : wt x + wts xs ≤ w := h.le
    have h1 : BX (wt x) d x := ⟨h.head.sh, Nat.le_refl _, h.head.dp⟩
    have h2 : BL (wts xs) d xs := ⟨h.tail.sh, Nat.le_refl _, h.tail.dp⟩
    exact (BL.cons h1 (BL.take n h2)).up (by omega) (Nat.le_refl _)
theorem BL.cut (h : BL w d xs) (lo hi : Option Int) : BL w d (Ev.cut xs lo hi) := (h.drop _).take _
theorem BL.set : ∀ {xs : List D} {w : Nat} (i : Nat), BL w d xs → BX w' d x → BL (w + w') d (xs.set i x)
  | [], w, _, h, _ => h.up (Nat.le_add_right _ _) (Nat.le_refl _)
  | y :: ys, w, 0, h, g => by
    have e : wt y + wts ys ≤ w := h.le
    have h2 : BL (wts ys) d ys := ⟨h.tail.sh, Nat.le_refl _, h.tail.dp⟩
    exact (BL.cons g h2).up (by omega) (Nat.le_refl _)
  | y :: ys, w, i + 1, h, g => by
    have e : wt y + wts ys ≤ w := h.le
    have h1 : BX (wt y) d y := ⟨h.head.sh, Nat.le_refl _, h.head.dp⟩
    have h2 : BL (wts ys) d ys := ⟨h.tail.sh, Nat.le_refl _, h.tail.dp⟩
    exact (BL.cons h1 (BL.set i h2 g)).up (by omega) (Nat.le_refl _)
theorem BL.mem : ∀ {xs : List D}, BL w d xs → ∀ x, x ∈ xs → BX w d x
  | y :: ys, h, x, hx => by
    rcases List.mem_cons.mp hx with rfl | hx
    · exact h.head
    · exact BL.mem h.tail x hx
theorem BX.tr (h : BX w d x) (hw : w ≤ 4096) : Tr x := ⟨h.sh, Nat.le_trans h.le hw⟩
end
theorem bx_non : BX 1 1 .non := ⟨rfl, Nat.le_refl _, Nat.le_refl _⟩
theorem bx_bl (b : Bool) : BX 1 1 (.bl b) := ⟨rfl, Nat.le_refl _, Nat.le_refl _⟩
theorem bx_int {i : Int} (h : i.natAbs < 10 ^ 20) : BX 1 1 (.int i) := ⟨decide_eq_true h, Nat.le_refl _, Nat.le_refl _⟩
theorem bx_nat {n : Nat} (h : n ≤ 4096) : BX 1 1 (natD n) := ⟨small_nat h, Nat.le_refl _, Nat.le_refl _⟩
theorem bx_str {z : Str} (h : PyData.strOk z = true) {n : Nat} (hn : z.length ≤ n) : BX (n + 1) 1 (.str z) := ⟨h, Nat.succ_le_succ hn, Nat.le_refl _⟩
theorem bx_dct : BX 2 4 (.dct [] []) := ⟨rfl, Nat.le_refl _, Nat.le_refl _⟩
theorem row_xs {r : Row} (h : SmR r) : BL 23 2 r.xs := by
  have h1 := h.sh
  have h2 := h.le
  rw [Row.d_eq] at h1 h2
  refine ⟨h1, Nat.le_of_succ_le_succ h2, ?_⟩
  have e : ∀ ps : List Nat, dpts (ps.map natD) ≤ 1 := fun ps => by
    induction ps with
    | nil => exact Nat.zero_le _
    | cons p ps ih =>
      show max 1 (dpts (ps.map natD)) ≤ 1
      omega
  cases r with
  | given i => exact (by decide : max 1 (max 1 0) ≤ 2)
  | either a b c => exact (by decide : max 1 (max 1 (max 1 (max 1 0))) ≤ 2)
  | step q n ps =>
    have := e ps
    show max 1 (max 1 (max (dpts (ps.map natD) + 1) 0)) ≤ 2
    omega
theorem row_bx {r : Row} (h : SmR r) : BX 24 3 r.d := by
  rw [Row.d_eq]
  exact BX.tup (row_xs h)
theorem add_tup {xs ys : List D} (h : xs.length + ys.length ≤ 16777216) (S : Sto) : dAdd (.tup xs) (.tup ys) S = .ok (.tup (xs ++ ys)) S := by
  show (if xs.length + ys.length ≤ 16777216 then R.ok (D.tup (xs ++ ys)) S else .bad) = _
  rw [if_pos h]
theorem sl_tup (xs : List D) (lo hi : Option Int) (S : Sto) : dSl (.tup xs) lo hi S = .ok (.tup (cut xs lo hi)) S := id rfl
theorem cut_len (xs : List D) (lo hi : Option Int) : (cut xs lo hi).length ≤ xs.length := by
  unfold cut
  rw [List.length_take, List.length_drop]
  omega
theorem lit_ok : PyData.strOk "mode" = true ∧ PyData.strOk "0" = true ∧ PyData.strOk "f" = true ∧ PyData.strOk "ab" = true ∧ PyData.strOk "a" = true := by decide +kernel
theorem hd_bx (r : Row) : BX 7 1 (.str r.hd) := bx_str (hd_ok r) (by
  cases r with
  | given _ => exact (by decide : ("given" : Str).length ≤ 6)
  | either _ _ _ => exact (by decide : ("either" : Str).length ≤ 6)
  | step q _ _ => exact Nat.le_succ_of_le (w_len q).1)
/-- what stands near every row -/
def nearL (X : List D) (hd : Str) (r0 : D) : List D := [.non, .int 5, .str hd, .lst [], .tup [], .tup (cut X none (some 1)), .tup (X ++ [.int 0]), .tup ([.str "mode"] ++ cut X (some 1) none), r0, .tup ([.int 5] ++ cut X (some 1) none), .dct [] [], .lst [.lst X]]
def AllB (xs : List D) : Prop := ∀ x, x ∈ xs → BX 60 6 x
theorem AllB.cons {x : D} {xs : List D} {w d : Nat} (h : BX w d x) (t : AllB xs) (hw : w ≤ 60) (hd : d ≤ 6) : AllB (x :: xs) := fun y hy => by
  rcases List.mem_cons.mp hy with rfl | hy
  · exact h.up hw hd
  · exact t y hy
theorem AllB.nil : AllB [] := fun y hy => by cases hy
theorem AllB.app {xs ys : List D} (h : AllB xs) (g : AllB ys) : AllB (xs ++ ys) := fun y hy => (List.mem_append.mp hy).elim (h y) (g y)
theorem i5 : BX 1 1 (.int 5) := bx_int (by decide)
theorem i0 : BX 1 1 (.int 0) := bx_int (by decide)
theorem i1 : BX 1 1 (.int 1) := bx_int (by decide)
theorem near_all {r r0 : Row} (h : SmR r) (h0 : SmR r0) : AllB (nearL r.xs r.hd r0.d) := by
  have x := row_xs h
  have u : ∀ {w d y}, BX w d y → d ≤ 2 → BX w 2 y := fun h hd => h.up (Nat.le_refl _) hd
  exact .cons bx_non (.cons i5 (.cons (hd_bx r) (.cons (BX.lst (BL.nil (d := 0))) (.cons (BX.tup (BL.nil (d := 0))) (.cons (BX.tup (x.cut _ _)) (.cons (BX.tup (x.app (.cons (u i0 (by decide)) .nil)))
    (.cons (BX.tup (BL.app (.cons (u (bx_str lit_ok.1 (n := 4) (by decide)) (by decide)) .nil) (x.cut _ _))) (.cons (row_bx h0) (.cons (BX.tup (BL.app (.cons (u i5 (by decide)) .nil) (x.cut _ _))) (.cons bx_dct (.cons (BX.lst (.cons (BX.lst x) .nil)) .nil (by decide) (by decide)) (by decide) (by decide)) (by decide) (by decide)) (by decide) (by decide))
    (by decide) (by decide)) (by decide) (by decide)) (by decide) (by decide)) (by decide) (by decide)) (by decide) (by decide)) (by decide) (by decide)) (by decide) (by decide)) (by decide) (by decide)
def oddL (many at_ : Nat) : List D := [natD many, natD at_, natD (at_ + 1), .int (-1), .bl true, .non, .str "0", .tup [.int 0], .int 0, .int 1]
theorem odd_all {many at_ : Nat} (h : many ≤ 4000) (g : at_ ≤ 4000) : ∀ x, x ∈ oddL many at_ → BX 3 2 x := fun x hx => by
  unfold oddL at hx
  simp only [List.mem_cons, List.not_mem_nil, or_false] at hx
  rcases hx with rfl | rfl | rfl | rfl | rfl | rfl | rfl | rfl | rfl | rfl
  · exact (bx_nat (by omega)).up (by decide) (by decide)
  · exact (bx_nat (by omega)).up (by decide) (by decide)
  · exact (bx_nat (by omega)).up (by decide) (by decide)
  · exact (bx_int (by decide)).up (by decide) (by decide)
  · exact (bx_bl true).up (by decide) (by decide)
  · exact bx_non.up (by decide) (by decide)
  · exact (bx_str lit_ok.2.1 (n := 1) (by decide)).up (by decide) (by decide)
  · exact (BX.tup (BL.cons i0 .nil)).up (by decide) (by decide)
  · exact i0.up (by decide) (by decide)
  · exact i1.up (by decide) (by decide)
def nmL : List D := [.str "", .str "F", .str "f_", .str "nineletts", .str "1f", .non, .int 5, .str "f g", .str "f\n", .lst [.str "f"], .str "f", .str "g"]
theorem nm_all : ∀ x, x ∈ nmL → BX 12 2 x := fun x hx => by
  have e : trBs nmL = true ∧ (nmL.all fun x => decide (wt x ≤ 12 ∧ dpt x ≤ 2)) = true := by decide +kernel
  have h1 := trBs_mem.mp e.1 x hx
  have h2 := of_decide_eq_true (List.all_eq_true.mp e.2 x hx)
  exact ⟨h1, h2.1, h2.2⟩
end K08
namespace K08
open PySem PySem.Spec PyProof.Rows L2 Ev
theorem mkL_ok {ds : List D} (h : ds.length ≤ 16777216) (S : Sto) : mkL ds S = .ok (.lst ds) S := by
  unfold mkL
  rw [if_pos h]
theorem mkC_ok {ds : List D} (h : ds.length ≤ 16777216) (S : Sto) : mkC ds S = .ok (.m S.length) (S ++ [.lst ds]) := by
  unfold mkC
  rw [if_pos h]
theorem add_cell {S : Sto} {c : Nat} {xs ys : List D} (h : S[c]? = some (.lst xs)) (hz : xs.length + ys.length ≤ 16777216) : dAdd (.m c) (.lst ys) S = .ok (.lst (xs ++ ys)) S := by
  unfold dAdd
  simp only [lstOf, h]
  rw [if_pos hz]
theorem pick_all (k : Nat) {c N : Nat} {S : Sto} (h : Wl c (N + 1) S) {v : D} {xs : List D} (hv : Sq S v xs) (hc : ∀ j, v = .m j → j ≠ c) (hx : 0 < xs.length) (hz : xs.length ≤ 4096) {P : D → Prop} (hp : ∀ x, x ∈ xs → P x) :
    ∃ (x : D) (S' : Sto), P x ∧ sem MM (k + 2) 16 [.m c, v] S = .ok x S' ∧ Wl c N S' ∧ Ext c S S' := by
  obtain ⟨x, S', h1, h2, h3, h4⟩ := pick_ok k h hv hc (List.length_pos_iff.mp hx) hz
  exact ⟨x, S', hp x h1, h2, h3, h4⟩
theorem bent_row_ok (k : Nat) {c N : Nat} {S : Sto} {rows : List Row} (hs : ∀ r, r ∈ rows → SmR r) (hz : rows.length ≤ 4000) {at_ : Nat} (ha : at_ < rows.length) (w : Wl c (N + 10) S) :
    ∃ (d : D) (S' : Sto), sem MM (k + 3) 30 [.m c, .lst (rows.map Row.d), natD at_] S = .ok d S' ∧ BX 60 6 d ∧ Wl c N S' ∧ Ext c S S' := by
  have hcl := w.lt
  have hr : rows[at_]? = some rows[at_] := List.getElem?_eq_getElem ha
  have hm : rows[at_] ∈ rows := List.getElem_mem ha
  generalize rows[at_] = r at hr hm
  have h0l : 0 < rows.length := by omega
  have hr0 : rows[0]? = some (rows[0]'h0l) := List.getElem?_eq_getElem h0l
  have hm0 : rows[0]'h0l ∈ rows := List.getElem_mem h0l
  generalize rows[0]'h0l = r0 at hr0 hm0
  have sr := hs r hm
  have sr0 := hs r0 hm0
  have near := near_all sr sr0
  have bx := row_xs sr
  have hxl : r.xs.length ≤ 30 := by
    have := wts_len r.xs
    have := bx.le
    omega
  have hsq : ∀ S, Sq S (.lst (rows.map Row.d)) (rows.map Row.d) := fun S => .inl rfl
  have x1 : ∀ S, dIx (.lst (rows.map Row.d)) (natD at_) S = .ok (.tup r.xs) S := fun S => by rw [rows_at (hsq S) hr, Row.d_eq]
  have x2 : ∀ S, dIx (.lst (rows.map Row.d)) (.int 0) S = .ok r0.d S := fun S => rows_at (hsq S) hr0
  have x3 : ∀ S, dIx (.tup r.xs) (.int 0) S = .ok (.str r.hd) S := fun S => by rw [← Row.d_eq]; exact Row.ix0 S r
  have x4 : ∀ S, dLen [.lst (rows.map Row.d)] S = .ok (natD rows.length) S := fun S => by
    rw [(hsq S).len, List.length_map]
    rfl
  have c1 := cut_len r.xs none (some 1)
  have c2 := cut_len r.xs (some 1) none
  have m1 := mkC_ok (ds := nearL r.xs r.hd r0.d) (by show 12 ≤ 16777216; decide) S
  have m2 : ∀ S, mkL (oddL rows.length at_) S = .ok (.lst (oddL rows.length at_)) S := mkL_ok (by show 10 ≤ 16777216; decide)
  have m3 : ∀ S, mkL r.xs S = .ok (.lst r.xs) S := mkL_ok (by omega)
  have m4 : ∀ S x, mkL [x] S = .ok (.lst [x]) S := fun S x => rfl
  have m5 : ∀ S x, mkT [x] S = .ok (.tup [x]) S := fun S x => rfl
  have m6 : ∀ S, mkT [] S = .ok (.tup []) S := fun S => rfl
  have m7 : ∀ S, mkL [] S = .ok (.lst []) S := fun S => rfl
  have a1 : ∀ S, dAdd (.tup r.xs) (.tup [.int 0]) S = .ok (.tup (r.xs ++ [.int 0])) S := add_tup (by simp; omega)
  have a2 : ∀ S, dAdd (.tup [.str "mode"]) (.tup (cut r.xs (some 1) none)) S = .ok (.tup ([.str "mode"] ++ cut r.xs (some 1) none)) S := add_tup (by simp; omega)
  have a3 : ∀ S, dAdd (.tup [.int 5]) (.tup (cut r.xs (some 1) none)) S = .ok (.tup ([.int 5] ++ cut r.xs (some 1) none)) S := add_tup (by simp; omega)
  have a4 : ∀ S, dAdd (natD at_) (.int 1) S = .ok (natD (at_ + 1)) S := fun S => rfl
  have a5 : ∀ S, dNeg (.int 1) S = .ok (.int (-1)) S := fun S => rfl
  have l1 : ∀ S, dList mkL [.tup r.xs] S = mkL r.xs S := fun S => rfl
  obtain ⟨odd, S2, o1, o2, o3, o4⟩ := pick_all k (N := N + 9) (c := c) (S := S ++ [.lst (nearL r.xs r.hd r0.d)]) ((w.app _).less (by omega)) (sq_lst _ (oddL rows.length at_)) no_cell (by show 0 < 10; decide) (by show 10 ≤ 4096; decide) (odd_all (by omega) (by omega))
  have hc2 : S2[S.length]? = some (.lst (nearL r.xs r.hd r0.d)) := o4.keep (get0 S _ []) (by omega)
  have e2 : Ext c S S2 := (Ext.app _).trans o4
  have pre : endR (g30 (sem MM (k + 2)) ([.m c, .lst (rows.map Row.d), natD at_].map some ++ List.replicate (9 - [D.m c, .lst (rows.map Row.d), natD at_].length) none) S) = sem MM (k + 3) 30 [.m c, .lst (rows.map Row.d), natD at_] S := by
    rw [s30, runF]
  rw [← pre]
  clear pre
  unfold nearL at m1 hc2 o2
  unfold oddL at m2 o2
  simp only [List.cons_append, List.nil_append] at a2 a3 m1 hc2 o2
  cases r with
  | given i =>
    have q1 : ∀ S, dEq (.str (Row.given i).hd) (.str "given") S = .ok (.bl true) S := fun S => rfl
    have xe : (Row.given i).xs = [.str "given", natD i] := rfl
    have hall : AllB ([.tup [.str "given", odd], .tup [.str "given", .tup [.int 1]], .tup [.str "given"], .tup [.str "made", .str "f", odd]]) := by
      have g : BX 6 2 (.str "given") := (bx_str so_lits.1 (n := 5) (by decide)).up (by decide) (by decide)
      have mm : BX 5 2 (.str "made") := (bx_str so_lits.2.2.1 (n := 4) (by decide)).up (by decide) (by decide)
      have ff : BX 2 2 (.str "f") := (bx_str lit_ok.2.2.1 (n := 1) (by decide)).up (by decide) (by decide)
      exact .cons (BX.tup (.cons g (.cons o1 .nil))) (.cons (BX.tup (.cons g (.cons (BX.tup (.cons i1 .nil)) .nil))) (.cons (BX.tup (.cons g .nil)) (.cons (BX.tup (.cons mm (.cons ff (.cons o1 .nil)))) .nil (by decide) (by decide)) (by decide) (by decide)) (by decide) (by decide)) (by decide) (by decide)
    have hadd := add_cell hc2 (ys := [.tup [.str "given", odd], .tup [.str "given", .tup [.int 1]], .tup [.str "given"], .tup [.str "made", .str "f", odd]]) (by simp)
    have hall := AllB.app near hall
    unfold nearL at hall
    simp only [List.cons_append, List.nil_append] at hadd hall
    obtain ⟨x, S3, p1, p2, p3, p4⟩ := pick_all k (N := N) (c := c) (S := S2) (o3.less (by omega)) (sq_lst S2 _) no_cell (by simp) (by simp) hall
    refine ⟨x, S3, ?_, p1, p3, e2.trans p4⟩
    generalize (Row.given i).xs = X at *
    generalize (Row.given i).hd = hd at *
    simp [g30, x1, x2, x3, x4, sl_tup, m1, m2, m3, m4, m5, m6, m7, a1, a2, a3, a4, a5, l1, o2, q1, mkT, mkL_ok, hadd, p2]
  | either a b e =>
    have q1 : ∀ S, dEq (.str (Row.either a b e).hd) (.str "given") S = .ok (.bl false) S := fun S => by rw [eq_str]; rfl
    have q2 : ∀ S, dEq (.str (Row.either a b e).hd) (.str "either") S = .ok (.bl true) S := fun S => by rw [eq_str]; rfl
    have x5 : ∀ S, dIx (.tup (Row.either a b e).xs) (.int 2) S = .ok (natD b) S := fun S => rfl
    have x6 : ∀ S, dIx (.tup (Row.either a b e).xs) (.int 3) S = .ok (natD e) S := fun S => rfl
    have hb : BX 23 2 (natD b) := bx.mem _ (by show natD b ∈ [_, _, _, _]; simp)
    have he : BX 23 2 (natD e) := bx.mem _ (by show natD e ∈ [_, _, _, _]; simp)
    have hb : BX 1 2 (natD b) := ⟨hb.sh, Nat.le_refl _, hb.dp⟩
    have he : BX 1 2 (natD e) := ⟨he.sh, Nat.le_refl _, he.dp⟩
    generalize (Row.either a b e).xs = X at *
    generalize (Row.either a b e).hd = hd at *
    obtain ⟨r', S3, d1, d2, d3, d4⟩ := draw_ok (k + 1) (N := N + 8) (c := c) (S := S2) (o3.less (by omega)) (m := 3) (by decide)
    have d1 : sem MM (k + 2) 15 [.m c, .int 3] S2 = .ok (natD r') S3 := d1
    have hadd : ∀ S, dAdd (.int 1) (natD r') S = .ok (.int (1 + (r' : Int))) S := fun S => rfl
    generalize (1 + (r' : Int)) = pl at hadd
    have c3 := cut_len X none (some pl)
    have c4 := cut_len X (some (pl + 1)) none
    have c5 := cut_len X none (some 2)
    have b1 : ∀ S, dAdd (.tup (cut X none (some pl))) (.tup [odd]) S = .ok (.tup (cut X none (some pl) ++ [odd])) S := add_tup (by simp; omega)
    have b2 : ∀ S, dAdd (.tup (cut X none (some pl) ++ [odd])) (.tup (cut X (some (pl + 1)) none)) S = .ok (.tup (cut X none (some pl) ++ [odd] ++ cut X (some (pl + 1)) none)) S := add_tup (by simp; omega)
    have b3 : ∀ S, dAdd (.tup (cut X none (some 2))) (.tup [natD e, natD b]) S = .ok (.tup (cut X none (some 2) ++ [natD e, natD b])) S := add_tup (by simp; omega)
    have b4 : ∀ S, dAdd (.tup (cut X none (some 2))) (.tup [natD b, natD b]) S = .ok (.tup (cut X none (some 2) ++ [natD b, natD b])) S := add_tup (by simp; omega)
    have m8 : ∀ S x y, mkT [x, y] S = .ok (.tup [x, y]) S := fun S x y => rfl
    have m9 : ∀ S x y z, mkL [x, y, z] S = .ok (.lst [x, y, z]) S := fun S x y z => rfl
    have hall : AllB [.tup (cut X none (some pl) ++ [odd] ++ cut X (some (pl + 1)) none), .tup (cut X none (some 2) ++ [natD e, natD b]), .tup (cut X none (some 2) ++ [natD b, natD b])] :=
      .cons (BX.tup (BL.app (BL.app (bx.cut _ _) (.cons o1 .nil)) (bx.cut _ _))) (.cons (BX.tup (BL.app (bx.cut _ _) (.cons he (.cons hb .nil)))) (.cons (BX.tup (BL.app (bx.cut _ _) (.cons hb (.cons hb .nil)))) .nil (by decide) (by decide)) (by decide) (by decide)) (by decide) (by decide)
    have hall := AllB.app near hall
    have hc3 := d4.keep hc2 (by omega)
    have hx := ext_cell hc3 (ys := [.tup (cut X none (some pl) ++ [odd] ++ cut X (some (pl + 1)) none), .tup (cut X none (some 2) ++ [natD e, natD b]), .tup (cut X none (some 2) ++ [natD b, natD b])]) (by simp)
    unfold nearL at hall
    have hS : S.length < S3.length := (List.getElem?_eq_some_iff.mp hc3).1
    have b2 : ∀ S, dAdd (.tup (cut X none (some pl) ++ [odd])) (.tup (cut X (some (pl + 1)) none)) S = .ok (.tup (cut X none (some pl) ++ odd :: cut X (some (pl + 1)) none)) S := fun S => by
      rw [b2 S, List.append_assoc]
      rfl
    simp only [List.cons_append, List.nil_append, List.append_assoc] at hx hall
    generalize hL : [D.non, .int 5, .str hd, .lst [], .tup [], .tup (cut X none (some 1)), .tup (X ++ [.int 0]), .tup (D.str "mode" :: cut X (some 1) none), r0.d, .tup (D.int 5 :: cut X (some 1) none), .dct [] [], .lst [.lst X], .tup (cut X none (some pl) ++ odd :: cut X (some (pl + 1)) none), .tup (cut X none (some 2) ++ [natD e, natD b]), .tup (cut X none (some 2) ++ [natD b, natD b])] = L at hx hall
    have hLl : L.length = 15 := by rw [← hL]; rfl
    have hc4 : (S3.set S.length (.lst L))[S.length]? = some (.lst L) := List.getElem?_set_self hS
    obtain ⟨x, S4, p1, p2, p3, p4⟩ := pick_all k (N := N) (c := c) (S := S3.set S.length (.lst L)) ((d3.set (by omega) _).less (by omega)) (.inr (.inr ⟨_, rfl, hc4⟩)) (fun j ej => by injection ej with ej; omega) (by omega) (by omega) hall
    refine ⟨x, S4, ?_, p1, p3, ((e2.trans d4).late (Nat.le_refl _)).trans p4⟩
    simp [g30, x1, x2, x3, x4, x5, x6, sl_tup, m1, m2, m3, m4, m5, m6, m7, m8, m9, a1, a2, a3, a4, a5, l1, o2, q1, q2, d1, hadd, a_km1 (li_cell hc3), b1, b2, b3, b4, hx, p2]
  | step q n ps =>
    have q1 : ∀ S, dEq (.str (Row.step q n ps).hd) (.str "given") S = .ok (.bl false) S := fun S => by rw [hd_step, eq_str, (w_ne q).1]
    have q2 : ∀ S, dEq (.str (Row.step q n ps).hd) (.str "either") S = .ok (.bl false) S := fun S => by rw [hd_step, eq_str, (w_ne q).2]
    have q3 : ∀ S, dEq (.str (Row.step q n ps).hd) (.str "made") S = .ok (.bl (!q)) S := fun S => by rw [hd_step, eq_str]; cases q <;> rfl
    have hdb : BX 6 2 (.str (Row.step q n ps).hd) := (bx_str (w_len q).2 (w_len q).1).up (by decide) (by decide)
    have x5 : ∀ S, dIx (.tup (Row.step q n ps).xs) (.int 2) S = .ok (.tup (ps.map natD)) S := fun S => rfl
    have x6 : ∀ S, dIx (.tup (Row.step q n ps).xs) (.int 1) S = .ok (.str n) S := fun S => rfl
    have hb : BX 23 2 (.tup (ps.map natD)) := bx.mem _ (by show D.tup (ps.map natD) ∈ [D.str (Row.w q), D.str n, D.tup (ps.map natD)]; simp)
    have he : BX 23 2 (.str n) := bx.mem _ (by show D.str n ∈ [D.str (Row.w q), D.str n, D.tup (ps.map natD)]; simp)
    have hps : BL 22 1 (ps.map natD) := ⟨hb.sh, Nat.le_of_succ_le_succ hb.le, Nat.le_of_succ_le_succ hb.dp⟩
    have hpl : (ps.map natD).length ≤ 30 := by
      have := wts_len (ps.map natD)
      have := hps.le
      omega
    generalize (Row.step q n ps).xs = X at *
    generalize (Row.step q n ps).hd = hd at *
    generalize ps.map natD = Y at *
    obtain ⟨nm, S3, n1, n2, n3, n4⟩ := pick_all k (N := N + 8) (c := c) (S := S2) (o3.less (by omega)) (sq_lst _ nmL) no_cell (by show 0 < 12; decide) (by show 12 ≤ 4096; decide) nm_all
    have m8 : ∀ S x y z, mkT [x, y, z] S = .ok (.tup [x, y, z]) S := fun S x y z => rfl
    have m9 : ∀ S x y z, mkL [x, y, z] S = .ok (.lst [x, y, z]) S := fun S x y z => rfl
    have mN : ∀ S, mkL nmL S = .ok (.lst nmL) S := mkL_ok (by show 12 ≤ 16777216; decide)
    have l2 : ∀ S, dList mkL [.tup Y] S = .ok (.lst Y) S := fun S => mkL_ok (by omega) S
    have b1 : ∀ S, dAdd (.lst Y) (.lst [odd]) S = .ok (.lst (Y ++ [odd])) S := fun S => by
      show (if Y.length + 1 ≤ 16777216 then R.ok (D.lst (Y ++ [odd])) S else .bad) = _
      rw [if_pos (by omega)]
    have b2 : ∀ q S, dAdd (.tup [.str (Row.w q)]) (.tup (cut X (some 1) none)) S = .ok (.tup ([.str (Row.w q)] ++ cut X (some 1) none)) S := fun q => add_tup (by simp; omega)
    have c3 := cut_len Y (some 1) none
    have up1 : ∀ {w y}, BX w 2 y → BX w 4 y := fun h => h.up (Nat.le_refl _) (by decide)
    have hsum1 : AllB [.tup [.str hd, nm, .tup Y], .tup [.str hd, .str n, .lst (Y ++ [odd])], .tup [.str hd, .str n, .tup (cut Y (some 1) none)]] :=
      .cons (BX.tup (.cons hdb (.cons n1 (.cons hb .nil)))) (.cons (BX.tup (.cons (up1 hdb) (.cons (up1 he) (.cons ((BX.lst (BL.app (hps.up (Nat.le_refl _) (by decide : 1 ≤ 2)) (.cons o1 .nil))).up (Nat.le_refl _) (by decide)) .nil)))) (.cons (BX.tup (.cons (up1 hdb) (.cons (up1 he) (.cons ((BX.tup (hps.cut (some 1) none)).up (Nat.le_refl _) (by decide)) .nil)))) .nil (by decide) (by decide)) (by decide) (by decide)) (by decide) (by decide)
    have hsum2 : AllB [.tup ([.str (Row.w !q)] ++ cut X (some 1) none), .tup [.str hd, .str n, .str "ab"], .tup [.str hd, .str n, odd]] :=
      .cons (BX.tup (BL.app (.cons ((bx_str (w_len (!q)).2 (w_len (!q)).1).up (Nat.le_refl _) (by decide)) .nil) (bx.cut _ _))) (.cons (BX.tup (.cons hdb (.cons he (.cons ((bx_str lit_ok.2.2.2.1 (n := 2) (by decide)).up (Nat.le_refl _) (by decide)) .nil)))) (.cons (BX.tup (.cons hdb (.cons he (.cons o1 .nil)))) .nil (by decide) (by decide)) (by decide) (by decide)) (by decide) (by decide)
    have hall := AllB.app (AllB.app near hsum1) hsum2
    unfold nearL at hall
    have hc3 := n4.keep hc2 (by omega)
    have hS : S.length < S3.length := (List.getElem?_eq_some_iff.mp hc3).1
    have hx := ext_cell hc3 (ys := [.tup [.str hd, nm, .tup Y], .tup [.str hd, .str n, .lst (Y ++ [odd])], .tup [.str hd, .str n, .tup (cut Y (some 1) none)]]) (by simp)
    generalize hL : [D.non, .int 5, .str hd, .lst [], .tup [], .tup (cut X none (some 1)), .tup (X ++ [.int 0]), .tup (D.str "mode" :: cut X (some 1) none), r0.d, .tup (D.int 5 :: cut X (some 1) none), .dct [] [], .lst [.lst X]] ++ [.tup [.str hd, nm, .tup Y], .tup [.str hd, .str n, .lst (Y ++ [odd])], .tup [.str hd, .str n, .tup (cut Y (some 1) none)]] = L at hx
    have hall : AllB (L ++ [.tup ([.str (Row.w !q)] ++ cut X (some 1) none), .tup [.str hd, .str n, .str "ab"], .tup [.str hd, .str n, odd]]) := by
      rw [← hL]
      exact hall
    have hLl : L.length = 15 := by rw [← hL]; rfl
    have hc4 : (S3.set S.length (.lst L))[S.length]? = some (.lst L) := List.getElem?_set_self hS
    have hx2 := ext_cell hc4 (ys := [.tup ([.str (Row.w !q)] ++ cut X (some 1) none), .tup [.str hd, .str n, .str "ab"], .tup [.str hd, .str n, odd]]) (by simp; omega)
    rw [List.set_set] at hx2
    have hc5 : (S3.set S.length (.lst (L ++ [.tup ([.str (Row.w !q)] ++ cut X (some 1) none), .tup [.str hd, .str n, .str "ab"], .tup [.str hd, .str n, odd]])))[S.length]? = some (.lst (L ++ [.tup ([.str (Row.w !q)] ++ cut X (some 1) none), .tup [.str hd, .str n, .str "ab"], .tup [.str hd, .str n, odd]])) := List.getElem?_set_self hS
    obtain ⟨x, S4, p1, p2, p3, p4⟩ := pick_all k (N := N) (c := c) ((n3.set (by omega) _).less (by omega)) (.inr (.inr ⟨_, rfl, hc5⟩)) (fun j ej => by injection ej with ej; omega) (by simp) (by simp; omega) hall
    refine ⟨x, S4, ?_, p1, p3, ((e2.trans n4).late (Nat.le_refl _)).trans p4⟩
    unfold nmL at n2 mN
    simp only [List.cons_append, List.nil_append] at hx2 p2 b2 hc4
    have b2 := b2 (!q)
    have k4 := li_cell hc4
    cases q with
    | true =>
      simp only [Bool.not_true] at hx2 p2
      have b2 : ∀ S, dAdd (.tup [.str "made"]) (.tup (cut X (some 1) none)) S = .ok (.tup (D.str (Row.w false) :: cut X (some 1) none)) S := b2
      simp [g30, x1, x2, x3, x4, x5, x6, sl_tup, m1, m2, m3, m4, m5, m6, m7, m8, m9, mN, a1, a2, a3, a4, a5, l1, l2, o2, q1, q2, q3, n2, a_km1 (li_cell hc3), a_km1 k4, b1, b2, hx, hx2, p2]
    | false =>
      simp only [Bool.not_false] at hx2 p2
      have b2 : ∀ S, dAdd (.tup [.str "asked"]) (.tup (cut X (some 1) none)) S = .ok (.tup (D.str (Row.w true) :: cut X (some 1) none)) S := b2
      simp [g30, x1, x2, x3, x4, x5, x6, sl_tup, m1, m2, m3, m4, m5, m6, m7, m8, m9, mN, a1, a2, a3, a4, a5, l1, l2, o2, q1, q2, q3, n2, a_km1 (li_cell hc3), a_km1 k4, b1, b2, hx, hx2, p2]
end K08
namespace K08
open PySem PySem.Spec PyProof.Rows L2 Ev
/-! ## bent webs -/
theorem eq_rows_nil {rows : List Row} (h : RowsOk rows) (S : Sto) : dEq (.lst (rows.map Row.d)) (.lst []) S = .ok (.bl rows.isEmpty) S ∧ dNe (.lst (rows.map Row.d)) (.lst []) S = .ok (.bl (!rows.isEmpty)) S := by
  have e : py S (.lst (rows.map Row.d)) = some (.list (rows.map pyR')) := Rw.py (.inl rfl)
  have hs := rows_shp h
  have e2 : PyData.eqvAll (rows.map pyR') [] = rows.isEmpty := by cases rows <;> rfl
  constructor
  · show (match py S (.lst (rows.map Row.d)), py S (.lst []) with
      | some x, some y => if SeqAt.shaped x = true ∧ SeqAt.shaped y = true then R.ok (D.bl (PyData.eqv x y)) S else .bad
      | _, _ => .bad) = _
    rw [e]
    show (if SeqAt.shaped (.list (rows.map pyR')) = true ∧ SeqAt.shaped (.list []) = true then R.ok (D.bl (PyData.eqvAll (rows.map pyR') [])) S else .bad) = _
    rw [if_pos ⟨hs, rfl⟩, e2]
  · show (match py S (.lst (rows.map Row.d)), py S (.lst []) with
      | some x, some y => if SeqAt.shaped x = true ∧ SeqAt.shaped y = true then R.ok (D.bl (!PyData.eqv x y)) S else .bad
      | _, _ => .bad) = _
    rw [e]
    show (if SeqAt.shaped (.list (rows.map pyR')) = true ∧ SeqAt.shaped (.list []) = true then R.ok (D.bl (!PyData.eqvAll (rows.map pyR') [])) S else .bad) = _
    rw [if_pos ⟨hs, rfl⟩, e2]
theorem rows_bl {rows : List Row} (h : ∀ r, r ∈ rows → SmR r) (hz : rows.length ≤ 14) : BL 336 3 (rows.map Row.d) := by
  have e : ∀ rows : List Row, (∀ r, r ∈ rows → SmR r) → BL (24 * rows.length) 3 (rows.map Row.d) := fun rows => by
    induction rows with
    | nil => exact fun _ => BL.nil
    | cons r rows ih => exact fun h => (BL.cons (row_bx (h r List.mem_cons_self)) (ih fun x hx => h x (List.mem_cons_of_mem _ hx))).up (by simp; omega) (Nat.le_refl _)
  exact (e rows h).up (by omega) (Nat.le_refl _)
theorem bent_ok (k : Nat) {c N : Nat} {S : Sto} {rows : List Row} (h : DW rows) (hz : rows.length ≤ 14) (w : Lw c (N + 20) S) :
    ∃ (d : D) (S' : Sto), sem MM (k + 4) 31 [.m c, .lst (rows.map Row.d)] S = .ok d S' ∧ BX 800 8 d ∧ Lw c N S' ∧ S'.length = S.length ∧ Ext c S S' := by
  have hc := w.w.lt
  have hbl := rows_bl h.sm hz
  have sq : ∀ S, Sq S (.lst (rows.map Row.d)) (rows.map Row.d) := fun S => .inl rfl
  have hlen : ∀ S, dLen [.lst (rows.map Row.d)] S = .ok (.int rows.length) S := fun S => by rw [(sq S).len, List.length_map]
  obtain ⟨way, S1, d1, d2, d3, d4⟩ := draw_ok (k + 2) (N := N + 19) (w.w.less (by omega)) (m := 8) (by decide)
  have d1 : sem MM (k + 3) 15 [.m c, .int 8] S = .ok (natD way) S1 := d1
  have q0 : ∀ S, dEq (natD way) (.int 0) S = .ok (.bl (way == 0)) S := fun S => eq_nat way 0 S
  have q5 : ∀ S, dEq (natD way) (.int 5) S = .ok (.bl (way == 5)) S := fun S => eq_nat way 5 S
  have q6 : ∀ S, dEq (natD way) (.int 6) S = .ok (.bl (way == 6)) S := fun S => eq_nat way 6 S
  have l5 : ∀ S, dCo .Lt (natD way) (.int 5) S = .ok (.bl (decide ((way : Int) < 5))) S := fun S => rfl
  have en := fun S => (eq_rows_nil h.ok S).1
  have m0 : ∀ S, mkL [] S = .ok (.lst []) S := fun S => rfl
  -- a tree told
  have tell : ∀ {d : D} {S2 : Sto}, BX 800 8 d → Wl c N S2 → Ext c S S2 → endR (g31 (sem MM (k + 3)) [some (.m c), some (.lst (rows.map Row.d)), none, none, none, none] S) = .ok d S2 → ∃ (d : D) (S' : Sto), sem MM (k + 4) 31 [.m c, .lst (rows.map Row.d)] S = .ok d S' ∧ BX 800 8 d ∧ Lw c N S' ∧ S'.length = S.length ∧ Ext c S S' := fun {d S2} hb hw he hr => by
    refine ⟨d, S2.take S.length, ?_, hb, take_lw w.cl he hw hc, take_len he, take_ext he⟩
    rw [s31, runT]
    show fzR S.length (endR (g31 (sem MM (k + 3)) [some (.m c), some (.lst (rows.map Row.d)), none, none, none, none] S)) = _
    rw [hr]
    exact fz_tree w.cl he hw hc hb.sh
  cases hfirst : (way == 0 || rows.isEmpty) with
  | true =>
    have hall : ∀ x, x ∈ [D.non, .int 5, .str "ab", .dct [] [], .bl true, .lst (rows.map Row.d), .lst [.non], .lst [.lst []], .dct [.str "a"] [.int 1], .lst [.lst (rows.map Row.d)]] → BX 800 8 x := fun x hx => by
      simp only [List.mem_cons, List.not_mem_nil, or_false] at hx
      rcases hx with rfl | rfl | rfl | rfl | rfl | rfl | rfl | rfl | rfl | rfl
      · exact bx_non.up (by decide) (by decide)
      · exact i5.up (by decide) (by decide)
      · exact (bx_str lit_ok.2.2.2.1 (n := 2) (by decide)).up (by decide) (by decide)
      · exact bx_dct.up (by decide) (by decide)
      · exact (bx_bl true).up (by decide) (by decide)
      · exact (BX.lst hbl).up (by decide) (by decide)
      · exact (BX.lst (BL.cons bx_non .nil)).up (by decide) (by decide)
      · exact (BX.lst (BL.cons (BX.lst (BL.nil (d := 0))) .nil)).up (by decide) (by decide)
      · exact ⟨by
          show (PyData.strOk "a" && decide _) = true
          rw [lit_ok.2.2.2.2]
          decide, by show ("a" : Str).length + 8 ≤ 800; decide, by show 4 ≤ 8; decide⟩
      · exact (BX.lst (BL.cons (BX.lst hbl) .nil)).up (by decide) (by decide)
    obtain ⟨x, S2, p1, p2, p3, p4⟩ := pick_all (k + 1) (N := N) (c := c) (S := S1) (d3.less (by omega)) (sq_lst S1 _) no_cell (by simp) (by simp) hall
    have p2 : sem MM (k + 3) 16 _ S1 = .ok x S2 := p2
    refine tell p1 p3 (d4.trans p4) ?_
    cases h0 : (way == 0) with
    | true =>
      rw [h0] at q0
      simp [g31, d1, q0, mkL_ok, p2]
    | false =>
      rw [h0] at q0 hfirst
      have hfirst : rows.isEmpty = true := hfirst
      rw [hfirst] at en
      simp [g31, d1, q0, en, mkL_ok, p2]
  | false =>
    rw [Bool.or_eq_false_iff] at hfirst
    rw [hfirst.1] at q0
    have hne : 0 < rows.length := by
      cases rows with
      | nil => cases hfirst.2
      | cons _ _ => simp
    rw [hfirst.2] at en
    obtain ⟨at_, S2, a1, a2, a3, a4⟩ := draw_ok (k + 2) (N := N + 18) (d3.less (by omega)) (m := rows.length) (by omega)
    have a1 : sem MM (k + 3) 15 [.m c, .int rows.length] S1 = .ok (natD at_) S2 := a1
    obtain ⟨ot, S3, b1, b2, b3, b4⟩ := draw_ok (k + 2) (N := N + 17) (a3.less (by omega)) (m := rows.length) (by omega)
    have b1 : sem MM (k + 3) 15 [.m c, .int rows.length] S2 = .ok (natD ot) S3 := b1
    have e3 : Ext c S S3 := (d4.trans a4).trans b4
    have hat : at_ < rows.length := by omega
    have hot : ot < rows.length := by omega
    have ko : ∀ (n : Nat) S, kop (natD n) S = .ok (some (n : Int)) S := fun n S => rfl
    have ko1 : ∀ S, kop (natD (at_ + 1)) S = .ok (some ((at_ : Int) + 1)) S := fun S => rfl
    have ad : ∀ (n : Nat) S, dAdd (natD n) (.int 1) S = .ok (natD (n + 1)) S := fun n S => rfl
    have cl : ∀ lo hi, (cut (rows.map Row.d) lo hi).length ≤ 14 := fun lo hi => by
      have := cut_len (rows.map Row.d) lo hi
      rw [List.length_map] at this
      omega
    obtain ⟨A, sA, bA, zA⟩ : ∃ A, (∀ S, dSl (.lst (rows.map Row.d)) none (some (at_ : Int)) S = .ok (.lst A) S) ∧ BL 336 6 A ∧ A.length ≤ 14 := ⟨_, fun S => rfl, (hbl.cut _ _).up (Nat.le_refl _) (by decide), cl _ _⟩
    obtain ⟨B, sB, bB, zB⟩ : ∃ B, (∀ S, dSl (.lst (rows.map Row.d)) (some ((at_ : Int) + 1)) none S = .ok (.lst B) S) ∧ BL 336 6 B ∧ B.length ≤ 14 := ⟨_, fun S => rfl, (hbl.cut _ _).up (Nat.le_refl _) (by decide), cl _ _⟩
    have xat : ∀ S, dIx (.lst (rows.map Row.d)) (natD at_) S = .ok rows[at_].d S := fun S => rows_at (sq S) (List.getElem?_eq_getElem hat)
    have sm := h.sm rows[at_] (List.getElem_mem hat)
    have sm2 := h.sm rows[ot] (List.getElem_mem hot)
    have al : ∀ (xs ys : List D) S, xs.length + ys.length ≤ 16777216 → dAdd (.lst xs) (.lst ys) S = .ok (.lst (xs ++ ys)) S := fun xs ys S h => by
      show (if xs.length + ys.length ≤ 16777216 then R.ok (D.lst (xs ++ ys)) S else .bad) = _
      rw [if_pos h]
    cases c5 : decide ((way : Int) < 5) with
    | true =>
      rw [c5] at l5
      obtain ⟨x, S4, p1, p2, p3, p4⟩ := bent_row_ok k (N := N) (c := c) (S := S3) h.sm (by omega) hat (b3.less (by omega))
      have g1 : ∀ S, dAdd (.lst A) (.lst [x]) S = .ok (.lst (A ++ [x])) S := fun S => al _ _ S (by simp; omega)
      have g2 : ∀ S, dAdd (.lst (A ++ [x])) (.lst B) S = .ok (.lst (A ++ [x] ++ B)) S := fun S => al _ _ S (by simp; omega)
      refine tell ((BX.lst (BL.app (BL.app bA (.cons p2 .nil)) bB)).up (by decide) (by decide)) p3 (e3.trans p4) ?_
      have m1 : ∀ S, mkL [x] S = .ok (.lst [x]) S := fun S => rfl
      simp [g31, d1, q0, en, m0, hlen, a1, b1, l5, sA, sB, ko, ko1, ad, p1, m1, g1, g2]
    | false =>
      rw [c5] at l5
      cases c6 : (way == 5) with
      | true =>
        rw [c6] at q5
        have g1 : ∀ S, dAdd (.lst A) (.lst B) S = .ok (.lst (A ++ B)) S := fun S => al _ _ S (by omega)
        refine tell ((BX.lst (BL.app bA bB)).up (by decide) (by decide)) (b3.less (by omega)) e3 ?_
        simp [g31, d1, q0, q5, en, m0, hlen, a1, b1, l5, sA, sB, ko, ko1, ad, g1]
      | false =>
        rw [c6] at q5
        cases c7 : (way == 6) with
        | true =>
          rw [c7] at q6
          have g1 : ∀ S, dAdd (.lst (rows.map Row.d)) (.lst [rows[at_].d]) S = .ok (.lst (rows.map Row.d ++ [rows[at_].d])) S := fun S => al _ _ S (by simp; omega)
          have m1 : ∀ S, mkL [rows[at_].d] S = .ok (.lst [rows[at_].d]) S := fun S => rfl
          refine tell ((BX.lst (BL.app hbl (.cons (row_bx sm) .nil))).up (by decide) (by decide)) (b3.less (by omega)) e3 ?_
          simp [g31, d1, q0, q5, q6, en, m0, hlen, a1, b1, l5, xat, m1, g1]
        | false =>
          rw [c7] at q6
          have hcl3 : c < S3.length := b3.lt
          have l1 : dList mkC [.lst (rows.map Row.d)] S3 = .ok (.m S3.length) (S3 ++ [.lst (rows.map Row.d)]) := mkC_ok (by rw [List.length_map]; omega) S3
          let R1 := (rows.map Row.d).set at_ rows[ot].d
          let R2 := R1.set ot rows[at_].d
          have y1 : dIx (.m S3.length) (natD ot) (S3 ++ [.lst (rows.map Row.d)]) = .ok rows[ot].d (S3 ++ [.lst (rows.map Row.d)]) := rows_at (rows := rows) (.inr (.inr ⟨_, rfl, get0 _ _ _⟩)) (List.getElem?_eq_getElem hot)
          have y2 : dIx (.m S3.length) (natD at_) (S3 ++ [.lst (rows.map Row.d)]) = .ok rows[at_].d (S3 ++ [.lst (rows.map Row.d)]) := rows_at (rows := rows) (.inr (.inr ⟨_, rfl, get0 _ _ _⟩)) (List.getElem?_eq_getElem hat)
          have t1 : dSt (.m S3.length) (natD at_) rows[ot].d (S3 ++ [.lst (rows.map Row.d)]) = .ok () ((S3 ++ [Ob.lst (rows.map Row.d)]).set S3.length (Ob.lst R1)) := st_cell (get0 _ _ _) (by rw [List.length_map]; exact hat) _
          rw [set0] at t1
          have t2 : dSt (.m S3.length) (natD ot) rows[at_].d (S3 ++ [.lst R1]) = .ok () ((S3 ++ [Ob.lst R1]).set S3.length (Ob.lst R2)) := st_cell (get0 _ _ _) (by show ot < ((rows.map Row.d).set at_ rows[ot].d).length; rw [List.length_set, List.length_map]; exact hot) _
          rw [set0] at t2
          have bR : BL 400 3 R2 := ((hbl.set at_ (row_bx sm2)).set ot (row_bx sm)).up (by decide) (Nat.le_refl _)
          have hE : Ext c S (S3 ++ [.lst R2]) := e3.trans (Ext.app _)
          have hW : Wl c N (S3 ++ [.lst R2]) := (b3.app _).less (by omega)
          refine ⟨.lst R2, (S3 ++ [Ob.lst R2]).take S.length, ?_, (BX.lst bR).up (by decide) (by decide), take_lw w.cl hE hW hc, take_len hE, take_ext hE⟩
          have hr : endR (g31 (sem MM (k + 3)) [some (.m c), some (.lst (rows.map Row.d)), none, none, none, none] S) = .ok (.m S3.length) (S3 ++ [.lst R2]) := by
            have m2 : ∀ S x y, mkT [x, y] S = .ok (.tup [x, y]) S := fun S x y => rfl
            simp [g31, d1, q0, q5, q6, en, m0, hlen, a1, b1, l5, l1, m2, y1, y2, t1, t2]
          rw [s31, runT]
          show fzR S.length (endR (g31 (sem MM (k + 3)) [some (.m c), some (.lst (rows.map Row.d)), none, none, none, none] S)) = _
          rw [hr]
          exact fz_cell w.cl hE hW hc e3.le (get0 _ _ _) bR.sh
end K08
namespace K08
open PySem PySem.Spec PyProof.Rows L2 Ev
/-! ## _law_judged_right -/
def App (S S' : Sto) : Prop := ∃ T, S' = S ++ T
section
variable {c N : Nat} {S S1 S2 : Sto}
theorem App.ext (h : App S S1) : Ext c S S1 := by
  obtain ⟨T, rfl⟩ := h
  exact Ext.app T
theorem App.wl (h : App S S1) (w : Wl c N S) : Wl c N S1 := by
  obtain ⟨T, rfl⟩ := h
  exact w.app T
theorem App.rd (h : App S S1) {v d : D} (r : Rd S v d) : Rd S1 v d := by
  obtain ⟨T, rfl⟩ := h
  exact r.app
theorem App.at (h : App S S1) {j : Nat} {o : Ob} (e : S[j]? = some o) : S1[j]? = some o := by
  obtain ⟨T, rfl⟩ := h
  rw [List.getElem?_append_left (List.getElem?_eq_some_iff.mp e).1]
  exact e
theorem App.le (h : App S S1) : S.length ≤ S1.length := by
  obtain ⟨T, rfl⟩ := h
  simp
end
theorem web_fault_app (k : Nat) {S : Sto} {u d : D} (hu : Rd S u d) (t : Tr d) : ∃ S', sem MM (k + 6) 9 [u] S = .ok (optF (fault d).2) S' ∧ App S S' := by
  obtain ⟨T, h⟩ := web_fault_ok k hu t
  exact ⟨_, h, T, rfl⟩
theorem is_web_app (k : Nat) {S : Sto} {u d : D} (hu : Rd S u d) (t : Tr d) : ∃ S', sem MM (k + 7) 10 [u] S = .ok (.bl (fault d).2.isNone) S' ∧ App S S' := by
  obtain ⟨T, h⟩ := is_web_ok k hu t
  exact ⟨_, h, T, rfl⟩
theorem g_fault_app (k : Nat) {S : Sto} {u d : D} (hu : Rd S u d) (t : Tr d) : ∃ S', sem MM (k + 4) 26 [u] S = .ok (optF (fault d).2) S' ∧ App S S' := by
  obtain ⟨T, h⟩ := g_fault_ok k hu t
  exact ⟨_, h, T, rfl⟩
theorem put_web (k : Nat) {S : Sto} {u x d e : D} (hu : Rd S u d) (t : Tr d) (hx : Rd S x e) (te : Tr e) {i : Nat} {s : Str} (hf : (fault d).2 = some (i, s)) : ∃ S', sem MM (k + 7) 13 [u, x] S = .ex 0 [natD i] S' ∧ App S S' := by
  obtain ⟨T, h⟩ := put_row_ok k hu t hx te
  rw [hf] at h
  exact ⟨_, h, T, rfl⟩
theorem put_bad (k : Nat) {S : Sto} {u x d e : D} (hu : Rd S u d) (t : Tr d) (hx : Rd S x e) (te : Tr e) (hf : (fault d).2 = none) {s : Str} (hw : whyO (fault d).1 (formR e) = some s) : ∃ S', sem MM (k + 7) 13 [u, x] S = .ex 1 [x] S' ∧ App S S' := by
  obtain ⟨T, h⟩ := put_row_ok k hu t hx te
  rw [hf] at h
  simp only [] at h
  cases hr : formR e with
  | none =>
    rw [hr] at h
    exact ⟨_, h, T, rfl⟩
  | some r =>
    rw [hr] at h hw
    have hw : why (fault d).1 r = some s := hw
    simp only [] at h
    rw [hw] at h
    exact ⟨_, h, T, rfl⟩
theorem put_good (k : Nat) {S : Sto} {u x d e : D} (hu : Rd S u d) (t : Tr d) (hx : Rd S x e) (te : Tr e) (hf : (fault d).2 = none) {r : Row} (hr : formR e = some r) (hw : why (fault d).1 r = none) :
    ∃ S', sem MM (k + 7) 13 [u, x] S = .ok (.tup [.m S.length, natD ((putR (fault d).1 r).idxOf r)]) S' ∧ App S S' ∧ S'[S.length]? = some (.lst ((putR (fault d).1 r).map Row.d)) ∧ S.length < S'.length := by
  obtain ⟨T, h⟩ := put_row_ok k hu t hx te
  rw [hf] at h
  simp only [] at h
  rw [hr] at h
  simp only [] at h
  rw [hw] at h
  obtain ⟨T', rfl, h⟩ := h
  exact ⟨_, h, ⟨_, rfl⟩, get0 _ _ _, by simp⟩
theorem met_ok {f : Ex} {ρ : Ev.Env} {S S1 : Sto} {d : D} (h : f ρ S = .ok d S1) : metX hds "told" f ρ S = .ok (.lst [.str "told", d]) S1 := by
  unfold metX
  rw [h]
theorem met_web {f : Ex} {ρ : Ev.Env} {S S1 : Sto} {d : D} (h : f ρ S = .ex 0 [d] S1) : metX hds "told" f ρ S = .ok (.lst [.str "web", d]) S1 := by
  unfold metX
  rw [h]
  rfl
theorem met_row {f : Ex} {ρ : Ev.Env} {S S1 : Sto} {d : D} (h : f ρ S = .ex 1 [d] S1) : metX hds "told" f ρ S = .ok (.lst [.str "row", d]) S1 := by
  unfold metX
  rw [h]
  rfl
theorem kk_one (x : D) : prmOf [0] ([] : List D) [x] = [x] := id rfl
theorem kk_two (x y : D) : prmOf [1, 0] ([] : List D) [x, y] = [y, x] := id rfl
theorem why_lit {rows : List Row} {r : Row} {s : Str} (h : why rows r = some s) : PyData.strOk s = true ∧ s.length ≤ 5 := by
  unfold why at h
  split at h
  · cases h; decide +kernel
  split at h
  · cases h; decide +kernel
  split at h
  · cases h; decide +kernel
  · cases h
theorem flt_lit : ∀ (xs : List D) (acc : List Row) {i : Nat} {s : Str}, (fltL acc xs).2 = some (i, s) → i ≤ acc.length + xs.length ∧ PyData.strOk s = true ∧ s.length ≤ 5
  | [], acc, i, s, h => by cases h
  | x :: xs, acc, i, s, h => by
    rw [fltL_cons] at h
    split at h
    · cases h
      exact ⟨by omega, by decide +kernel⟩
    · split at h
      · rename_i hw
        cases h
        exact ⟨by omega, why_lit hw⟩
      · split at h
        · cases h
          exact ⟨by omega, by decide +kernel⟩
        · have := flt_lit xs _ h
          rw [List.length_append] at this
          simp only [List.length_cons, List.length_nil] at this ⊢
          exact ⟨by omega, this.2⟩
theorem opt_bx {d : D} (t : Tr d) : BX 8 2 (optF (fault d).2) := by
  rcases hf : (fault d).2 with _ | ⟨i, s⟩
  · exact bx_non.up (by decide) (by decide)
  · have key : i ≤ 4096 ∧ PyData.strOk s = true ∧ s.length ≤ 5 := by
      unfold fault at hf
      split at hf
      · have h1 := flt_lit _ _ hf
        have h2 := t.items.len
        simp only [List.length_nil] at h1
        exact ⟨by omega, h1.2⟩
      · cases hf
        decide +kernel
    exact BX.tup (BL.cons (bx_nat key.1) (.cons (bx_str key.2.1 key.2.2) .nil))
theorem same_refl (k : Nat) {w : Nat} {T : D} (b : BX w 12 T) (hw : w ≤ 4096) (S : Sto) : sem MM (k + 12) 18 [T, T] S = .ok (.bl true) S := same_ok 12 T (b.tr hw) b.dp k S T T (RT.refl S T b.sh) (RT.refl S T b.sh)
theorem judged_ok (k : Nat) {c N : Nat} {S : Sto} {d : D} (b : BX 800 8 d) (w : Lw c (N + 2000) S) :
    ∃ S', sem MM (k + 17) 32 [.m c, d] S = .ok (.bl true) S' ∧ Lw c N S' ∧ S'.length = S.length ∧ Ext c S S' := by
  have hc := w.w.lt
  have t := b.tr (by decide)
  obtain ⟨S1, h1, a1⟩ := g_fault_app (k + 12) (S := S) (u := d) Rd.here t
  have h1 : sem MM (k + 16) 26 [d] S = .ok (optF (fault d).2) S1 := h1
  have hwt := b.le
  obtain ⟨e, S2, h2, n2, w2, e2⟩ := loose_ok 12 d t (Nat.le_trans b.dp (by decide)) k c N S1 ((a1.wl w.w).less (by omega))
  have h2 : sem MM (k + 16) 19 [.m c, d] S1 = .ok e S2 := h2
  have te : Tr e := t.norm n2
  have fe : fault e = fault d := fault_of_norm n2
  have de : dpt e ≤ 40 := by
    rw [← dpt_norm, n2, dpt_norm]
    exact Nat.le_trans b.dp (by decide)
  obtain ⟨S3, h3, a3⟩ := web_fault_app (k + 10) (S := S2) (u := e) Rd.here te
  have h3 : sem MM (k + 16) 9 [e] S2 = .ok (optF (fault e).2) S3 := h3
  obtain ⟨S4, h4, a4⟩ := web_fault_app (k + 10) (S := S3) (u := d) Rd.here t
  have h4 : sem MM (k + 16) 9 [d] S3 = .ok (optF (fault d).2) S4 := h4
  obtain ⟨S5, h5, a5⟩ := is_web_app (k + 9) (S := S4) (u := e) Rd.here te
  have h5 : sem MM (k + 16) 10 [e] S4 = .ok (.bl (fault e).2.isNone) S5 := h5
  obtain ⟨S6, h6, a6⟩ := is_web_app (k + 9) (S := S5) (u := d) Rd.here t
  have h6 : sem MM (k + 16) 10 [d] S5 = .ok (.bl (fault d).2.isNone) S6 := h6
  rw [fe] at h3 h5
  have r1 : dRepr [e] S2 = .ok (.str (pd e).shown) S2 := repr_one Rd.here te de
  have r2 : dRepr [e] S4 = .ok (.str (pd e).shown) S4 := repr_one Rd.here te de
  have bo := opt_bx t
  have s1 : sem MM (k + 16) 18 [.lst [optF (fault d).2, optF (fault d).2], .lst [optF (fault d).2, optF (fault d).2]] S4 = .ok (.bl true) S4 := same_refl (k + 4) ((BX.lst (.cons bo (.cons bo .nil))).up (Nat.le_refl _) (by decide)) (by decide) S4
  have s2 : ∀ b : Bool, sem MM (k + 16) 18 [.lst [.bl b, .bl b], .lst [.bl b, .bl b]] S6 = .ok (.bl true) S6 := fun b => same_refl (k + 4) ((BX.lst (.cons (bx_bl b) (.cons (bx_bl b) .nil))).up (Nat.le_refl _) (by decide)) (by decide) S6
  have ml : ∀ b S, dMul (.lst [.bl b]) (.int 2) S = .ok (.lst [.bl b, .bl b]) S := fun b S => mul_lst [.bl b] 2 ⟨by decide, by decide, by show 1 * 2 ≤ 16777216; decide⟩ S
  have m1 : ∀ S x, mkL [x] S = .ok (.lst [x]) S := fun S x => rfl
  have m2 : ∀ S x y, mkL [x, y] S = .ok (.lst [x, y]) S := fun S x y => rfl
  have end_ : ∀ S7, App S6 S7 → endR (g32 (sem MM (k + 16)) [some (.m c), some d, none, none, none, none, none] S) = .ok (.bl true) S7 → ∃ S', sem MM (k + 17) 32 [.m c, d] S = .ok (.bl true) S' ∧ Lw c N S' ∧ S'.length = S.length ∧ Ext c S S' := fun S7 a7 hr => by
    have hE : Ext c S S7 := a1.ext.trans (e2.trans (a3.ext.trans (a4.ext.trans (a5.ext.trans (a6.ext.trans a7.ext)))))
    have hW : Wl c N S7 := a7.wl (a6.wl (a5.wl (a4.wl (a3.wl w2))))
    refine ⟨S7.take S.length, ?_, take_lw w.cl hE hW hc, take_len hE, take_ext hE⟩
    show sem MM ((k + 16) + 1) 32 [.m c, d] S = _
    rw [s32, runT]
    show fzR S.length (endR (g32 (sem MM (k + 16)) [some (.m c), some d, none, none, none, none, none] S)) = _
    rw [hr]
    exact fz_tree w.cl hE hW hc rfl
  rcases hf : (fault d).2 with _ | ⟨i, s⟩
  · rw [hf] at h1 h3 h4 h5 h6 s1
    obtain ⟨S7, h7, a7⟩ := put_bad (k + 9) (S := S6) (u := d) (x := .non) (e := .non) Rd.here t Rd.here (bx_non.tr (by decide)) hf (s := "form") rfl
    have h7 : sem MM (k + 16) 13 [d, .non] S6 = .ex 1 [.non] S7 := h7
    have hm := met_row (f := clP 2 (sem MM (k + 16) 13) (arC (vrb 1) (arC (cst .non) arN))) (ρ := [some (.m c), some d, some (optF none), some e, some (.str (pd e).shown), some (.lst [optF none, optF none]), some (.lst [.str "row", .non])]) (S := S6) (S1 := S7) (d := .non) (by simp [h7])
    have s3 : sem MM (k + 16) 18 [.lst [.str "row", .non], .lst [.str "row", .non]] S7 = .ok (.bl true) S7 := same_refl (k + 4) ((BX.lst (.cons (bx_str (z := "row") (by decide +kernel) (n := 3) (by decide)) (.cons bx_non .nil))).up (Nat.le_refl _) (by decide)) (by decide) S7
    refine end_ S7 a7 ?_
    have s2 := s2 true
    have i1 : (none : Option (Nat × Str)).isNone = true := rfl
    rw [i1] at h5 h6
    simp [g32, h1, h2, r1, h3, h4, kk_one, m1, m2, s1, r2, h5, h6, ml, s2, hm, s3]
  · rw [hf] at h1 h3 h4 h5 h6 s1
    obtain ⟨S7, h7, a7⟩ := put_web (k + 9) (S := S6) (u := d) (x := .non) (e := .non) Rd.here t Rd.here (bx_non.tr (by decide)) hf
    have h7 : sem MM (k + 16) 13 [d, .non] S6 = .ex 0 [natD i] S7 := h7
    have hm := met_web (f := clP 2 (sem MM (k + 16) 13) (arC (vrb 1) (arC (cst .non) arN))) (ρ := [some (.m c), some d, some (optF (some (i, s))), some e, some (.str (pd e).shown), some (.lst [optF (some (i, s)), optF (some (i, s))]), some (.lst [.str "web", natD i])]) (S := S6) (S1 := S7) (d := natD i) (by simp [h7])
    have bi : BX 1 1 (natD i) := by
      rw [hf] at bo
      have := bo.sh
      exact ⟨(Bool.and_eq_true_iff.mp (show (trB (natD i) && _) = true from this)).1, Nat.le_refl _, Nat.le_refl _⟩
    have s3 : sem MM (k + 16) 18 [.lst [.str "web", natD i], .lst [.str "web", natD i]] S7 = .ok (.bl true) S7 := same_refl (k + 4) ((BX.lst (.cons (bx_str (z := "web") (by decide +kernel) (n := 3) (by decide)) (.cons bi .nil))).up (Nat.le_refl _) (by decide)) (by decide) S7
    refine end_ S7 a7 ?_
    have s2 := s2 false
    have i1 : (some (i, s)).isNone = false := rfl
    have x0 : ∀ S, dIx (optF (some (i, s))) (.int 0) S = .ok (natD i) S := fun S => rfl
    rw [i1] at h5 h6
    simp [g32, h1, h2, r1, h3, h4, kk_one, m1, m2, s1, r2, h5, h6, ml, s2, x0, hm, s3]
end K08
namespace K08
open PySem PySem.Spec PyProof.Rows L2 Ev
/-! ## _law_put_right: one thing put behind a web -/
theorem web_fault_eq {rows : List Row} (h : DW rows) {e : D} (n : norm e = norm (.lst (rows.map Row.d))) : fault e = (rows, none) := by
  rw [fault_of_norm n]
  exact h.web.flt
theorem Rd.isi {S : Sto} {v e : D} (h : Rd S v e) (t : Tr e) (hn : ∀ xs, v ≠ .lst xs) : (∃ j xs, v = .m j ∧ S[j]? = some (.lst xs) ∧ e = .lst xs ∧ dIsi [v, .ty "list"] S = .ok (.bl true) S) ∨ (v = e ∧ dIsi [v, .ty "list"] S = .ok (.bl false) S) := by
  rcases h with rfl | ⟨j, xs, rfl, h, rfl⟩
  · refine .inr ⟨rfl, ?_⟩
    have k := t.kd
    cases k with
    | lst xs => exact absurd rfl (hn xs)
    | _ => rfl
  · exact .inl ⟨j, xs, rfl, h, rfl, isi_ty (ty_lst (.inr ⟨j, rfl, h⟩)) (by decide)⟩
def bodyP (cal : Nat → Fn) : Sm := (sq (asT (ofL mkT (arC (clP 2 (cal 25) (arC (vrb 1) (arC (vrb 4) arN))) (arC (clP 2 (cal 35) (arC (vrb 0) (arC (vrb 1) arN))) (arC (clP 2 (cal 35) (arC (vrb 0) (arC (vrb 4) arN))) arN)))) (tgT 3 (tgsC (tgN 5) (tgsC (tgN 6) (tgsC (tgN 7) tgsN))))) (ifS (unB asB (bi2 (dCo .IsNot) (vrb 5) (cst .non))) (sq (asg (metX hds "told" (clP 2 (cal 13) (arC (vrb 6) (arC (vrb 7) arN)))) (bnN 8)) (sq (ifS (unB asB (ofL dIsi (arC (vrb 7) (arC (cst (.ty "list")) arN)))) (dro (mthL dApp (vrb 7) (arC (cst (.str "late")) arN))) skp) (ifS (notB (unB asB (clP 2 (cal 18) (arC (vrb 8) (arC (ofL mkL (arC (cst (.str "row")) (arC (vrb 7) arN))) arN))))) (Ev.ret (cst (.bl false))) skp))) (sq (par2 9 10 (arC (clP 1 (cal 23) (arC (vrb 4) arN)) (arC (ofL dRepr (arC (ofL mkL (arC (vrb 6) (arC (vrb 7) arN))) arN)) arN))) (sq (asg (ofL mkT (arC (ifE (unB asB (bi2 (dCo .In) (vrb 9) (vrb 1))) (vrb 1) (bi2 dAdd (vrb 1) (ofL mkL (arC (vrb 9) arN)))) (arC (ifE (unB asB (bi2 (dCo .In) (vrb 9) (vrb 1))) (mthL dIdx (vrb 1) (arC (vrb 9) arN)) (ofL dLen (arC (vrb 1) arN))) arN))) (bnN 11)) (sq (asg (ofL mkC (arC (clP 2 (cal 13) (arC (vrb 6) (arC (vrb 7) arN))) (arC (clK 2 0 2 [1, 0] (cal 13) arN (arC (vrb 9) (arC (vrb 1) arN))) arN))) (bnN 12)) (sq (ifS (orB (notB (unB asB (clP 2 (cal 18) (arC (vrb 12) (arC (ofL mkL (arC (vrb 11) (arC (vrb 11) arN))) arN))))) (unB asB (bi2 (dCo .NotEq) (ofL dRepr (arC (ofL mkL (arC (vrb 6) (arC (vrb 7) arN))) arN)) (vrb 10)))) (Ev.ret (cst (.bl false))) skp) (sq (dro (clP 1 (cal 20) (arC (vrb 12) arN))) (ifS (notB (unB asB (clP 2 (cal 18) (arC (clP 2 (cal 13) (arC (vrb 6) (arC (vrb 7) arN))) (arC (vrb 11) arN))))) (Ev.ret (cst (.bl false))) skp))))))))
theorem body_ok (k : Nat) {c N : Nat} {S : Sto} {rows : List Row} (h : DW rows) (hz : rows.length ≤ 14) {x : D} (bx : BX 60 6 x) {v2 v3 : D} {e5 e6 e7 e8 e9 e10 e11 e12 e13 : Option D} (w : Wl c (N + 1000) S) :
    ∃ e5' e6' e7' e8' e9' e10' e11' e12' S', bodyP (sem MM (k + 17)) [some (.m c), some (.lst (rows.map Row.d)), some v2, some v3, some x, e5, e6, e7, e8, e9, e10, e11, e12, e13] S = .ok (.nx [some (.m c), some (.lst (rows.map Row.d)), some v2, some v3, some x, e5', e6', e7', e8', e9', e10', e11', e12', e13]) S' ∧ Wl c N S' ∧ Ext c S S' := by
  have hc := w.lt
  have tx : Tr x := bx.tr (by decide)
  have rbl := rows_bl h.sm hz
  have tr : Tr (.lst (rows.map Row.d)) := (BX.lst rbl).tr (by decide)
  have wr := (BX.lst rbl).le
  have wx := bx.le
  have hw : sem MM (k + 17) 25 [.lst (rows.map Row.d), x] S = .ok (optS (whyO rows (formR x))) S := g_why_ok (k + 14) (.inl rfl) Rd.here tx
  obtain ⟨v6, t6, S1, l1, r6, ⟨c6, n6⟩, m6, w1, x1⟩ := looseK_ok k tr (Nat.le_trans (BX.lst rbl).dp (by decide)) c (N + 200) S (w.less (by omega))
  obtain ⟨v7, t7, S2, l2, r7, ⟨c7, n7⟩, m7, w2, x2⟩ := looseK_ok k tx (Nat.le_trans bx.dp (by decide)) c N S1 (w1.less (by omega))
  have r6 : Rd S2 v6 t6 := r6.ext (fun j e => by have := c6 j e; omega) x2
  have e2 : Ext c S S2 := x1.trans x2
  have u6 : Tr t6 := tr.norm m6
  have u7 : Tr t7 := tx.norm m7
  have f6 := web_fault_eq h m6
  have f7 : formR t7 = formR x := form_of_norm m7
  have mt : ∀ S a b c, mkT [a, b, c] S = .ok (.tup [a, b, c]) S := fun S a b c => rfl
  have mt2 : ∀ S a b, mkT [a, b] S = .ok (.tup [a, b]) S := fun S a b => rfl
  have ml1 : ∀ S a, mkL [a] S = .ok (.lst [a]) S := fun S a => rfl
  have ml2 : ∀ S a b, mkL [a, b] S = .ok (.lst [a, b]) S := fun S a b => rfl
  cases hwy : whyO rows (formR x) with
  | some s =>
    rw [hwy] at hw
    have hw : sem MM (k + 17) 25 [.lst (rows.map Row.d), x] S = .ok (.str s) S := hw
    obtain ⟨S3, p1, p2⟩ := put_bad (k + 10) r6 u6 r7 u7 (by rw [f6]) (s := s) (by rw [f6, f7]; exact hwy)
    have p1 : sem MM (k + 17) 13 [v6, v7] S2 = .ex 1 [v7] S3 := p1
    have hm := met_row (f := clP 2 (sem MM (k + 17) 13) (arC (vrb 6) (arC (vrb 7) arN))) (ρ := [some (.m c), some (.lst (rows.map Row.d)), some v2, some v3, some x, some (.str s), some v6, some v7, e8, e9, e10, e11, e12, e13]) (S := S2) (S1 := S3) (d := v7) (by simp [p1])
    have e3 : Ext c S S3 := e2.trans p2.ext
    have b7 : BX 60 6 t7 := ⟨u7.sh, by rw [← wt_norm, m7, wt_norm]; exact bx.le, by rw [← dpt_norm, m7, dpt_norm]; exact bx.dp⟩
    have brow : BX 4 6 (.str "row") := (bx_str (z := "row") (by decide +kernel) (n := 3) (by decide)).up (by decide) (by decide)
    rcases Rd.isi (p2.rd r7) u7 n7 with ⟨j, xs, rfl, hj, rfl, hi⟩ | ⟨rfl, hi⟩
    · have hjc := c7 j rfl
      have hxs : xs.length ≤ 4096 := u7.lst.len
      have ha := app_cell hj (by omega) (.str "late")
      have hj4 : (S3.set j (.lst (xs ++ [.str "late"])))[j]? = some (.lst (xs ++ [.str "late"])) := List.getElem?_set_self (List.getElem?_eq_some_iff.mp hj).1
      have bT : BX 90 7 (.lst (xs ++ [.str "late"])) := (BX.lst (BL.app (⟨b7.sh, Nat.le_of_succ_le_succ (Nat.le_succ_of_le b7.le), Nat.le_of_succ_le_succ (Nat.le_succ_of_le b7.dp)⟩ : BL 60 6 xs) (.cons ((bx_str (z := "late") (by decide +kernel) (n := 4) (by decide)).up (Nat.le_refl _) (by decide)) .nil))).up (by decide) (Nat.le_refl _)
      have bTT : BX 95 8 (.lst [.str "row", .lst (xs ++ [.str "late"])]) := BX.lst (.cons (brow.up (Nat.le_refl _) (by decide : 6 ≤ 7)) (.cons bT .nil))
      have rt : RT (S3.set j (.lst (xs ++ [.str "late"]))) (.lst [.str "row", .lst (xs ++ [.str "late"])]) (.lst [.str "row", .m j]) :=
        ⟨_, .inl rfl, _, _, rfl, rfl, _, _, rfl, ⟨_, .inr ⟨j, rfl, hj4⟩, RTs.refl _ _ bT.sh⟩, rfl⟩
      have hs : sem MM (k + 17) 18 [.lst [.str "row", .m j], .lst [.str "row", .m j]] (S3.set j (.lst (xs ++ [.str "late"]))) = .ok (.bl true) _ := same_ok 12 _ (bTT.tr (by decide)) (Nat.le_trans bTT.dp (by decide)) (k + 5) _ _ _ rt rt
      refine ⟨some (.str s), some v6, some (.m j), some (.lst [.str "row", .m j]), e9, e10, e11, e12, S3.set j (.lst (xs ++ [.str "late"])), ?_, Wl.set (c := c) (j := j) (p2.wl w2) (by have := x1.le; omega) _, e3.late (by have := x1.le; omega)⟩
      · simp [bodyP, hw, l1, l2, mt, isNon_str, hm, hi, a_km1 (li_cell hj), ha, ml2, hs]
    · have hs : sem MM (k + 17) 18 [.lst [.str "row", v7], .lst [.str "row", v7]] S3 = .ok (.bl true) S3 := same_refl (k + 5) ((BX.lst (.cons brow (.cons b7 .nil))).up (Nat.le_refl _) (by decide)) (by decide) S3
      refine ⟨some (.str s), some v6, some v7, some (.lst [.str "row", v7]), e9, e10, e11, e12, S3, ?_, p2.wl w2, e3⟩
      simp [bodyP, hw, l1, l2, mt, isNon_str, hm, hi, ml2, hs]
  | none =>
    rw [hwy] at hw
    obtain ⟨r, hr, hwr⟩ : ∃ r, formR x = some r ∧ why rows r = none := by
      cases hf : formR x with
      | none => rw [hf] at hwy; cases hwy
      | some r => rw [hf] at hwy; exact ⟨r, rfl, hwy⟩
    have hw : sem MM (k + 17) 25 [.lst (rows.map Row.d), x] S = .ok .non S := hw
    have trr : Tr r.d := form_tr tx hr
    have hg : r.good = true := form_good tx hr
    have brr : BX 60 6 r.d := by
      have e := form_norm_eq hr
      exact ⟨trr.sh, by rw [← wt_norm, row_norm, ← e, wt_norm]; exact bx.le, by rw [← dpt_norm, row_norm, ← e, dpt_norm]; exact bx.dp⟩
    have hfm : sem MM (k + 17) 23 [x] S2 = .ok r.d S2 := by
      have q := g_form_ok (k + 15) (S := S2) (v := x) Rd.here tx
      rw [hr] at q
      exact q
    have d6 : dpt t6 ≤ 40 := by
      rw [← dpt_norm, m6, dpt_norm]
      exact Nat.le_trans (BX.lst rbl).dp (by decide)
    have d7 : dpt t7 ≤ 40 := by
      rw [← dpt_norm, m7, dpt_norm]
      exact Nat.le_trans bx.dp (by decide)
    have hrep : ∀ S', Rd S' v6 t6 → Rd S' v7 t7 → dRepr [.lst [v6, v7]] S' = .ok (.str (PyData.list [pd t6, pd t7]).shown) S' := fun S' a b => repr_two a b u6 u7 d6 d7
    generalize (PyData.list [pd t6, pd t7]).shown = Z at hrep
    have hw14 : (putR rows r).length ≤ 15 := by
      unfold putR
      split
      · omega
      · simp; omega
    have bW : BL 400 6 ((putR rows r).map Row.d) := by
      unfold putR
      split
      · exact rbl.up (by decide) (by decide)
      · rw [List.map_append]
        exact (BL.app (rbl.up (Nat.le_refl _) (by decide : 3 ≤ 6)) (.cons brr .nil)).up (by decide) (Nat.le_refl _)
    have tW : ∀ q, q ∈ putR rows r → Tr q.d := fun q hq => ⟨trBs_mem.mp bW.sh _ (List.mem_map.mpr ⟨q, hq, rfl⟩), Nat.le_trans (wts_mem (List.mem_map.mpr ⟨q, hq, rfl⟩)) (Nat.le_trans bW.le (by decide))⟩
    have hin := in_rows false (S := S2) (v := .lst (rows.map Row.d)) (.inl rfl) h.ok hg
    simp only [Bool.false_eq_true, if_false] at hin
    have hdue : ofL mkT (arC (ifE (unB asB (bi2 (dCo .In) (vrb 9) (vrb 1))) (vrb 1) (bi2 dAdd (vrb 1) (ofL mkL (arC (vrb 9) arN)))) (arC (ifE (unB asB (bi2 (dCo .In) (vrb 9) (vrb 1))) (mthL dIdx (vrb 1) (arC (vrb 9) arN)) (ofL dLen (arC (vrb 1) arN))) arN)) [some (.m c), some (.lst (rows.map Row.d)), some v2, some v3, some x, some .non, some v6, some v7, e8, some r.d, some (.str Z), e11, e12, e13] S2 = .ok (.tup [.lst ((putR rows r).map Row.d), natD ((putR rows r).idxOf r)]) S2 := by
      by_cases hm : r ∈ rows
      · have ix := idx_rows (S := S2) (v := .lst (rows.map Row.d)) (.inl rfl) h.ok hg hm
        rw [decide_eq_true hm] at hin
        have e : putR rows r = rows := if_pos hm
        rw [e]
        simp [hin, mt2, a_km1 (show liOf S2 (.lst (rows.map Row.d)) = some (rows.map Row.d) from rfl), ix]
      · rw [decide_eq_false hm] at hin
        have e : putR rows r = rows ++ [r] := if_neg hm
        have ha : dAdd (.lst (rows.map Row.d)) (.lst [r.d]) S2 = .ok (.lst ((rows ++ [r]).map Row.d)) S2 := by
          show (if (rows.map Row.d).length + 1 ≤ 16777216 then R.ok (D.lst (rows.map Row.d ++ [r.d])) S2 else .bad) = _
          rw [if_pos (by rw [List.length_map]; omega), List.map_append]
          rfl
        have hl : dLen [.lst (rows.map Row.d)] S2 = .ok (natD rows.length) S2 := by
          show R.ok (D.int ((rows.map Row.d).length : Nat)) S2 = _
          rw [List.length_map]
          rfl
        have hi : (rows ++ [r]).idxOf r = rows.length := by
          rw [List.idxOf_append, if_neg hm, List.idxOf_cons_self]
          simp
        rw [e, hi]
        simp only [List.map_append, List.map_cons, List.map_nil] at ha ⊢
        simp [hin, mt2, ml1, ha, hl]
    obtain ⟨S3, p1, p2, p3, p4⟩ := put_good (k + 10) r6 u6 r7 u7 (by rw [f6]) (r := r) (by rw [f7]; exact hr) (by rw [f6]; exact hwr)
    rw [f6] at p1 p3
    have p1 : sem MM (k + 17) 13 [v6, v7] S2 = .ok (.tup [.m S2.length, natD ((putR rows r).idxOf r)]) S3 := p1
    have p3 : S3[S2.length]? = some (.lst ((putR rows r).map Row.d)) := p3
    have f1 : fault (.lst (rows.map Row.d)) = (rows, none) := web_fault_eq h rfl
    obtain ⟨S4, q1, q2, q3, q4⟩ := put_good (k + 10) (S := S3) (u := .lst (rows.map Row.d)) (x := r.d) Rd.here tr Rd.here trr (by rw [f1]) (r := r) (form_row r hg) (by rw [f1]; exact hwr)
    rw [f1] at q1 q3
    have q1 : sem MM (k + 17) 13 [.lst (rows.map Row.d), r.d] S3 = .ok (.tup [.m S3.length, natD ((putR rows r).idxOf r)]) S4 := q1
    have q3 : S4[S3.length]? = some (.lst ((putR rows r).map Row.d)) := q3
    have bI : BX 1 6 (natD ((putR rows r).idxOf r)) := (bx_nat (Nat.le_trans List.idxOf_le_length (by omega))).up (Nat.le_refl _) (by decide)
    generalize hI : (putR rows r).idxOf r = I at *
    generalize hW : putR rows r = W at *
    obtain ⟨S5, o1, o2, o3⟩ : ∃ S5, mkC [.tup [.m S2.length, natD I], .tup [.m S3.length, natD I]] S4 = .ok (.m S4.length) S5 ∧ S5.length = S4.length + 1 ∧ S5 = S4 ++ [.lst [.tup [.m S2.length, natD I], .tup [.m S3.length, natD I]]] := ⟨_, rfl, by simp, rfl⟩
    have a5 : App S4 S5 := ⟨_, o3⟩
    have c5 : S5[S4.length]? = some (.lst [.tup [.m S2.length, natD I], .tup [.m S3.length, natD I]]) := by
      rw [o3]
      exact get0 _ _ _
    have k2 : S5[S2.length]? = some (.lst (W.map Row.d)) := a5.at (q2.at p3)
    have k3 : S5[S3.length]? = some (.lst (W.map Row.d)) := a5.at q3
    have bD : BX 403 8 (.tup [.lst (W.map Row.d), natD I]) := (BX.tup (.cons (BX.lst bW) (.cons (bI.up (Nat.le_refl _) (by decide : 6 ≤ 7)) .nil))).up (by decide) (Nat.le_refl _)
    have tD : Tr (.tup [.lst (W.map Row.d), natD I]) := bD.tr (by decide)
    have tDD : Tr (.lst [.tup [.lst (W.map Row.d), natD I], .tup [.lst (W.map Row.d), natD I]]) := (BX.lst (.cons bD (.cons bD .nil))).tr (by decide)
    have rW : ∀ S' j, S'[j]? = some (.lst (W.map Row.d)) → RT S' (.tup [.lst (W.map Row.d), natD I]) (.tup [.m j, natD I]) := fun S' j hj => ⟨_, rfl, _, _, rfl, ⟨_, .inr ⟨j, rfl, hj⟩, RTs.refl _ _ bW.sh⟩, _, _, rfl, rfl, rfl⟩
    have rD : RT S5 (.lst [.tup [.lst (W.map Row.d), natD I], .tup [.lst (W.map Row.d), natD I]]) (.m S4.length) := ⟨_, .inr ⟨_, rfl, c5⟩, _, _, rfl, rW _ _ k2, _, _, rfl, rW _ _ k3, rfl⟩
    have same1 : sem MM (k + 17) 18 [.m S4.length, .lst [.tup [.lst (W.map Row.d), natD I], .tup [.lst (W.map Row.d), natD I]]] S5 = .ok (.bl true) S5 := same_ok 12 _ tDD (Nat.le_trans (BX.lst (.cons bD (.cons bD .nil))).dp (by decide)) (k + 5) S5 _ _ rD (RT.refl _ _ tDD.sh)
    have rp1 := hrep S2 r6 r7
    have rp2 := hrep S5 (a5.rd (q2.rd (p2.rd r6))) (a5.rd (q2.rd (p2.rd r7)))
    have hl3 : S2.length < S3.length := p4
    have hl4 : S3.length < S4.length := q4
    obtain ⟨S6, s1, s2, s3⟩ := spoil_told (k + 11) (t := S4.length) (r1 := S2.length) (r2 := S3.length) c5 k2 k3 (by omega) (by omega) (by omega) (by omega) (by omega)
    have s1 : sem MM (k + 17) 20 [.m S4.length] S5 = .ok .non S6 := s1
    have old : ∀ j, j < S2.length → S6[j]? = S2[j]? := fun j hj => by
      rw [s3 j (by omega) (by omega) (by omega), o3, List.getElem?_append_left (by omega)]
      obtain ⟨T1, g1⟩ := p2
      obtain ⟨T2, g2⟩ := q2
      rw [g2, List.getElem?_append_left (by omega), g1, List.getElem?_append_left hj]
    have rd6 : ∀ {v t : D}, Rd S2 v t → Rd S6 v t := fun hv => by
      rcases hv with rfl | ⟨j, xs, rfl, hj, rfl⟩
      · exact .inl rfl
      · exact .inr ⟨j, xs, rfl, by rw [old j (List.getElem?_eq_some_iff.mp hj).1]; exact hj, rfl⟩
    obtain ⟨S7, z1, z2, z3, z4⟩ := put_good (k + 10) (rd6 r6) u6 (rd6 r7) u7 (by rw [f6]) (r := r) (by rw [f7]; exact hr) (by rw [f6]; exact hwr)
    rw [f6] at z1 z3
    have z1 : sem MM (k + 17) 13 [v6, v7] S6 = .ok (.tup [.m S6.length, natD ((putR rows r).idxOf r)]) S7 := z1
    have z3 : S7[S6.length]? = some (.lst ((putR rows r).map Row.d)) := z3
    rw [hW] at z1 z3
    rw [hI] at z1
    have same2 : sem MM (k + 17) 18 [.tup [.m S6.length, natD I], .tup [.lst (W.map Row.d), natD I]] S7 = .ok (.bl true) S7 := same_ok 12 _ tD (Nat.le_trans bD.dp (by decide)) (k + 5) S7 _ _ (rW _ _ z3) (RT.refl _ _ tD.sh)
    have hc2 : c < S2.length := w2.lt
    have w6 : Wl c N S6 := by
      obtain ⟨a, b, n, g1, g2⟩ := w2
      exact ⟨a, b, n, by rw [old c hc2]; exact g1, g2⟩
    have e6 : Ext c S2 S6 := ⟨by rw [s2, o2]; omega, fun j hj _ => old j hj⟩
    refine ⟨some .non, some v6, some v7, e8, some r.d, some (.str Z), some (.tup [.lst (W.map Row.d), natD I]), some (.m S4.length), S7, ?_, z2.wl w6, (e2.trans e6).trans z2.ext⟩
    unfold bodyP
    generalize ofL mkT (arC (ifE (unB asB (bi2 (dCo .In) (vrb 9) (vrb 1))) (vrb 1) (bi2 dAdd (vrb 1) (ofL mkL (arC (vrb 9) arN)))) (arC (ifE (unB asB (bi2 (dCo .In) (vrb 9) (vrb 1))) (mthL dIdx (vrb 1) (arC (vrb 9) arN)) (ofL dLen (arC (vrb 1) arN))) arN)) = F at hdue ⊢
    simp [hw, l1, l2, mt, isNon_non, hfm, ml2, rp1, hdue, p1, kk_two, q1, o1, same1, rp2, s1, z1, same2]
end K08
namespace K08
open PySem PySem.Spec PyProof.Rows L2 Ev
/-! ## _law_put_right -/
theorem lc_many {c i m cost N : Nat} {S : Sto} {ρ : Ev.Env} {f : Ex} {P : D → Prop} {M : Int} (hr : ∀ S, rgN 1 [.int M] S = .ok (.rng 0 m) S) (hm : m ≤ 4096)
    (hf : ∀ x N' S', Ext c S S' → Wl c (N' + cost) S' → ∃ y S'', f ((wipeD ρ [i]).set i x) S' = .ok y S'' ∧ P y ∧ Wl c N' S'' ∧ Ext c S' S'') (w : Wl c (N + m * cost) S) :
    ∃ ys S', (∀ y, y ∈ ys → P y) ∧ ys.length = m ∧ Wl c N S' ∧ Ext c S S' ∧ ∀ mk, lcN mk [i] (srcL (rgN 1) (arC (cst (.int M)) arN)) (bnN i) yes f ρ S = mk ys S' := by
  obtain ⟨S', acc, e, h1, h2, h3, h4⟩ := lcX_inv (s := .rng 0 m) (P := fun _ => True) (xs := rgD m) (bn := bnN i) (c := yes) (f := f) (ρ := wipeD ρ [i]) (rg_its _ _)
    (fun n S' acc => acc.length = n ∧ (∀ y, y ∈ acc → P y) ∧ Wl c (N + (m - n) * cost) S' ∧ Ext c S S') (fun _ _ _ _ => trivial) (fun _ _ _ h => Nat.le_of_eq h.1) (by rw [rgD_len]; omega)
    (fun n x S' acc hx ⟨h1, h2, h3, h4⟩ => by
      have hn : n < m := by
        have := (List.getElem?_eq_some_iff.mp hx).1
        rw [rgD_len] at this
        exact this
      have e : m - n = (m - (n + 1)) + 1 := by omega
      rw [e, Nat.add_mul, Nat.one_mul, ← Nat.add_assoc] at h3
      obtain ⟨y, S2, g1, g2, g3, g4⟩ := hf (some x) _ S' h4 h3
      refine ⟨_, true, S', rfl, rfl, ?_⟩
      rw [if_pos rfl]
      refine ⟨y, S2, g1, by simp [h1], fun z hz => ?_, g3, h4.trans g4⟩
      rcases List.mem_append.mp hz with q | q
      · exact h2 z q
      · rw [List.mem_singleton.mp q]; exact g2)
    (m + 1) 0 S [] (Nat.zero_le _) (by rw [rgD_len]; omega) ⟨rfl, fun y h => (by cases h), w, Ext.refl⟩
  rw [rgD_len] at h1 h3
  refine ⟨acc, S', h2, h1, h3.less (by omega), h4, fun mk => ?_⟩
  rw [a_lcN]
  simp [hr]
  show (noex (lcX (.rng 0 m) (bnN i) yes f _ (m + 1) 0 S [])).bind mk = _
  rw [e]
  rfl
def lastL : List D := [.tup [.str "given", .int 12157665459056928801], .int 5, .str "given", .dct [] []]
theorem last_all : ∀ x, x ∈ lastL → BX 60 6 x := fun x hx => by
  unfold lastL at hx
  simp only [List.mem_cons, List.not_mem_nil, or_false] at hx
  rcases hx with rfl | rfl | rfl | rfl
  · exact (BX.tup (BL.cons (bx_str so_lits.1 (n := 5) (by decide)) (.cons (bx_int (by decide)) .nil))).up (by decide) (by decide)
  · exact i5.up (by decide) (by decide)
  · exact (bx_str so_lits.1 (n := 5) (by decide)).up (by decide) (by decide)
  · exact bx_dct.up (by decide) (by decide)
theorem put_right_ok (k : Nat) {c N : Nat} {S : Sto} {rows : List Row} (h : DW rows) (hz : rows.length ≤ 14) (w : Lw c (N + 40000) S) :
    ∃ S', sem MM (k + 18) 33 [.m c, .lst (rows.map Row.d)] S = .ok (.bl true) S' ∧ Lw c N S' ∧ S'.length = S.length ∧ Ext c S S' := by
  have hc := w.w.lt
  have sqR : ∀ S, Sq S (.lst (rows.map Row.d)) (rows.map Row.d) := fun S => .inl rfl
  -- rows drawn
  obtain ⟨ys1, S1, y1, y2, y3, y4, y5⟩ := lc_many (c := c) (i := 13) (m := 3) (cost := 5000) (N := N + 25000) (S := S) (ρ := [some (.m c), some (.lst (rows.map Row.d)), none, none, none, none, none, none, none, none, none, none, none, none]) (f := clP 2 (sem MM (k + 17) 28) (arC (vrb 0) (arC (vrb 1) arN))) (P := BX 60 6) (M := 3) (src_rg 3 (by decide)) (by decide)
    (fun x N' S' _ w' => by
      obtain ⟨r, S2, r1, r2, r3, r4, r5⟩ := g_row_ok (k + 14) (N := N') (c := c) (sqR S') no_cell (by omega) w'
      exact ⟨r.d, S2, by simpa [wipeD] using r1, (row_bx r2).up (by decide) (by decide), r4, r5⟩) (w.w.less (by omega))
  have y5 := y5 mkC
  rw [mkC_ok (by omega)] at y5
  -- one of the web's own
  obtain ⟨ps, S3, p1, p2, p3, p4, p5⟩ : ∃ ps S3, ifE (unB asB (bi2 (dCo .NotEq) (vrb 1) (ofL mkL arN))) (ofL mkL (arC (clP 2 (sem MM (k + 17) 16) (arC (vrb 0) (arC (vrb 1) arN))) arN)) (ofL mkL arN) [some (.m c), some (.lst (rows.map Row.d)), none, none, none, none, none, none, none, none, none, none, none, none] (S1 ++ [.lst ys1]) = .ok (.lst ps) S3 ∧ (∀ y, y ∈ ps → BX 60 6 y) ∧ ps.length ≤ 1 ∧ Wl c (N + 24999) S3 ∧ Ext c (S1 ++ [.lst ys1]) S3 := by
    have en := fun S => (eq_rows_nil h.ok S).2
    have m0 : ∀ S, mkL [] S = .ok (.lst []) S := fun S => rfl
    cases hi : rows.isEmpty with
    | true =>
      rw [hi] at en
      refine ⟨[], _, ?_, fun y h => (by cases h), by decide, (y3.app _).less (by omega), Ext.refl⟩
      simp [m0, en]
    | false =>
      rw [hi] at en
      have hl : 0 < rows.length := by
        cases rows with
        | nil => cases hi
        | cons _ _ => simp
      obtain ⟨x, S3, q1, q2, q3, q4⟩ := pick_all (k + 15) (N := N + 24999) (c := c) ((y3.app [.lst ys1]).less (by omega)) (sqR (S1 ++ [.lst ys1])) no_cell (by rw [List.length_map]; exact hl) (by rw [List.length_map]; omega) (P := BX 60 6) (fun x hx => by
        obtain ⟨r, hr, rfl⟩ := List.mem_map.mp hx
        exact (row_bx (h.sm r hr)).up (by decide) (by decide))
      have q2 : sem MM (k + 17) 16 [.m c, .lst (rows.map Row.d)] (S1 ++ [.lst ys1]) = .ok x S3 := q2
      have m1 : ∀ S, mkL [x] S = .ok (.lst [x]) S := fun S => rfl
      refine ⟨[x], S3, ?_, fun y hy => by rw [List.mem_singleton.mp hy]; exact q1, Nat.le_refl 1, q3, q4⟩
      simp [m0, en, q2, m1]
  have hl1 : S.length ≤ S1.length := y4.le
  have ey : S3[S1.length]? = some (.lst ys1) := p5.keep (get0 _ _ _) (by omega)
  have e3 : Ext c S S3 := (y4.trans (Ext.app _)).trans p5
  have hadd : dAddC (.m S1.length) (.lst ps) S3 = .ok (.m S3.length) (S3 ++ [.lst (ys1 ++ ps)]) := by
    unfold dAddC
    simp only [lstOf, ey]
    rw [if_pos (by omega)]
  have hsome : ∀ y, y ∈ ys1 ++ ps → BX 60 6 y := fun y hy => (List.mem_append.mp hy).elim (y1 y) (p2 y)
  have hsl : (ys1 ++ ps).length ≤ 4 := by rw [List.length_append]; omega
  generalize ys1 ++ ps = some1 at hadd hsome hsl
  -- one row more behind
  obtain ⟨r2, S5, t1, t2, t3, t4, t5⟩ := g_row_ok (k + 14) (N := N + 19999) (c := c) (sqR (S3 ++ [.lst some1])) no_cell (by omega) ((p4.app _).less (by omega))
  have t1 : sem MM (k + 17) 28 [.m c, .lst (rows.map Row.d)] (S3 ++ [.lst some1]) = .ok r2.d S5 := t1
  have hl3 : S.length ≤ S3.length := e3.le
  have es : S5[S3.length]? = some (.lst some1) := t5.keep (get0 _ _ _) (by omega)
  have e5 : Ext c S S5 := (e3.trans (Ext.app _)).trans t5
  have hlong : ∀ S, dAdd (.lst (rows.map Row.d)) (.lst [r2.d]) S = .ok (.lst ((rows ++ [r2]).map Row.d)) S := fun S => by
    show (if (rows.map Row.d).length + 1 ≤ 16777216 then R.ok (D.lst (rows.map Row.d ++ [r2.d])) S else .bad) = _
    rw [if_pos (by rw [List.length_map]; omega), List.map_append]
    rfl
  -- bent ones
  obtain ⟨ys2, S6, z1, z2, z3, z4, z5⟩ := lc_many (c := c) (i := 13) (m := 5) (cost := 10) (N := N + 19000) (S := S5) (ρ := [some (.m c), some (.lst (rows.map Row.d)), some (.m S3.length), some (.lst ((rows ++ [r2]).map Row.d)), none, none, none, none, none, none, none, none, none, none]) (f := clP 3 (sem MM (k + 17) 30) (arC (vrb 0) (arC (vrb 3) (arC (ofL dLen (arC (vrb 1) arN)) arN)))) (P := BX 60 6) (M := 5) (src_rg 5 (by decide)) (by decide)
    (fun x N' S' _ w' => by
      obtain ⟨d, S2, b1, b2, b3, b4⟩ := bent_row_ok (k + 14) (N := N') (c := c) (S := S') (rows := rows ++ [r2]) (fun r hr => (List.mem_append.mp hr).elim (h.sm r) fun q => by rw [List.mem_singleton.mp q]; exact t2) (by simp; omega) (at_ := rows.length) (by simp) w'
      have b1 : sem MM (k + 17) 30 [.m c, .lst ((rows ++ [r2]).map Row.d), natD rows.length] S' = .ok d S2 := b1
      have hl : dLen [.lst (rows.map Row.d)] S' = .ok (natD rows.length) S' := by
        rw [(sqR S').len, List.length_map]
        rfl
      exact ⟨d, S2, by simp only [wipeD, List.set_cons_succ, List.set_cons_zero]; generalize (rows ++ [r2]).map Row.d = LL at b1 ⊢; simp [hl, b1], b2, b3, b4⟩) (t4.less (by omega))
  have z5 := z5 mkL
  rw [mkL_ok (by omega)] at z5
  have es6 : S6[S3.length]? = some (.lst some1) := z4.keep es (by omega)
  have e6 : Ext c S S6 := e5.trans z4
  have mlast : mkL [.tup [.str "given", .int 12157665459056928801], .int 5, .str "given", .dct [] []] S6 = .ok (.lst lastL) S6 := rfl
  have hadd2 : dAdd (.lst ys2) (.lst lastL) S6 = .ok (.lst (ys2 ++ lastL)) S6 := by
    show (if ys2.length + lastL.length ≤ 16777216 then R.ok (D.lst (ys2 ++ lastL)) S6 else .bad) = _
    rw [if_pos (by show ys2.length + 4 ≤ _; omega)]
  have hx := ext_cell es6 (ys := ys2 ++ lastL) (by rw [List.length_append]; show some1.length + (ys2.length + 4) ≤ _; omega)
  have hpow : dPow (.int 9) (.int 20) S6 = .ok (.int 12157665459056928801) S6 := by
    have q := pow_ok (i := 9) (j := 20) ⟨by decide, by decide, by decide⟩ S6
    rw [show ((9 : Int) ^ (20 : Int).toNat) = 12157665459056928801 from by decide] at q
    exact q
  have hall : ∀ y, y ∈ some1 ++ (ys2 ++ lastL) → BX 60 6 y := fun y hy => (List.mem_append.mp hy).elim (hsome y) fun q => (List.mem_append.mp q).elim (z1 y) (last_all y)
  have hal : (some1 ++ (ys2 ++ lastL)).length ≤ 13 := by
    rw [List.length_append, List.length_append]
    show some1.length + (ys2.length + 4) ≤ 13
    omega
  generalize some1 ++ (ys2 ++ lastL) = all at hx hall hal
  have hl6 : S3.length < S6.length := (List.getElem?_eq_some_iff.mp es6).1
  let S7 := S6.set S3.length (.lst all)
  have e7 : Ext c S S7 := e6.late hl3
  have w7 : Wl c (N + 19000) S7 := z3.set (by omega) _
  have es7 : S7[S3.length]? = some (.lst all) := List.getElem?_set_self hl6
  have sq7 : Sq S7 (.m S3.length) all := .inr (.inr ⟨_, rfl, es7⟩)
  have hx : dExt (.m S3.length) [.lst (ys2 ++ lastL)] S6 = .ok .non S7 := hx
  -- all things, one by one
  generalize hX : forX (.seq (.m S3.length)) (bnN 4) (bodyP (sem MM (k + 17))) (all.length + 1) 0 [some (.m c), some (.lst (rows.map Row.d)), some (.m S3.length), some (.lst ((rows ++ [r2]).map Row.d)), none, none, none, none, none, none, none, none, none, none] S7 = X
  have key := forX_run hX (P := fun S' => Ext c S7 S') (xs := all) (sq_its (S := S7) _ fun S' he => sq7.ext (fun j e => by injection e with e; omega) he)
    (fun i ρ S' => (∃ e4 e5 e6 e7 e8 e9 e10 e11 e12, ρ = [some (.m c), some (.lst (rows.map Row.d)), some (.m S3.length), some (.lst ((rows ++ [r2]).map Row.d)), e4, e5, e6, e7, e8, e9, e10, e11, e12, none]) ∧ Wl c (N + (13 - i) * 1000) S' ∧ Ext c S7 S')
    (fun _ _ => False) (fun _ _ _ h => h.2.2) ⟨⟨none, none, none, none, none, none, none, none, none, rfl⟩, w7.less (by omega), Ext.refl⟩ (Nat.lt_succ_self _) (fun i x ρ S' hx ⟨⟨e4, e5, e6, e7, e8, e9, e10, e11, e12, h1⟩, h2, h3⟩ => by
      subst h1
      have hi : i < all.length := (List.getElem?_eq_some_iff.mp hx).1
      have bx := hall x (List.mem_of_getElem? hx)
      obtain ⟨a5, a6, a7, a8, a9, a10, a11, a12, S2, b1, b2, b3⟩ := body_ok k (N := N + (13 - (i + 1)) * 1000) (c := c) (S := S') h hz bx (v2 := .m S3.length) (v3 := .lst ((rows ++ [r2]).map Row.d)) (e5 := e5) (e6 := e6) (e7 := e7) (e8 := e8) (e9 := e9) (e10 := e10) (e11 := e11) (e12 := e12) (e13 := none) (h2.less (by
        have : 13 - i = (13 - (i + 1)) + 1 := by omega
        rw [this]
        omega))
      exact ⟨_, rfl, .inl ⟨_, S2, b1, ⟨some x, a5, a6, a7, a8, a9, a10, a11, a12, rfl⟩, b2, h3.trans b3⟩⟩)
  rcases key with ⟨ρ', S', e, ⟨e4, _, _, _, _, _, _, _, _, h1⟩, h2, h3⟩ | ⟨_, _, _, hf⟩
  · subst e
    have hE : Ext c S S' := e7.trans h3
    have hW : Wl c N S' := h2.less (by omega)
    refine ⟨S'.take S.length, ?_, take_lw w.cl hE hW hc, take_len hE, take_ext hE⟩
    have hr : endR (g33 (sem MM (k + 17)) [some (.m c), some (.lst (rows.map Row.d)), none, none, none, none, none, none, none, none, none, none, none, none] S) = .ok (.bl true) S' := by
      have m1 : ∀ S, mkL [r2.d] S = .ok (.lst [r2.d]) S := fun S => rfl
      have mt : ∀ S a b, mkT [a, b] S = .ok (.tup [a, b]) S := fun S a b => rfl
      unfold g33
      generalize ifE (unB asB (bi2 (dCo .NotEq) (vrb 1) (ofL mkL arN))) (ofL mkL (arC (clP 2 (sem MM (k + 17) 16) (arC (vrb 0) (arC (vrb 1) arN))) arN)) (ofL mkL arN) = F1 at p1 ⊢
      generalize lcN mkC [13] (srcL (rgN 1) (arC (cst (.int 3)) arN)) (bnN 13) yes (clP 2 (sem MM (k + 17) 28) (arC (vrb 0) (arC (vrb 1) arN))) = F2 at y5 ⊢
      generalize lcN mkL [13] (srcL (rgN 1) (arC (cst (.int 5)) arN)) (bnN 13) yes (clP 3 (sem MM (k + 17) 30) (arC (vrb 0) (arC (vrb 3) (arC (ofL dLen (arC (vrb 1) arN)) arN)))) = F3 at z5 ⊢
      generalize hRR : (rows ++ [r2]).map Row.d = RR at *
      change endR (sq _ (sq _ (sq _ (sq (forS _ _ (bodyP (sem MM (k + 17)))) _))) _ _) = _
      generalize bodyP (sem MM (k + 17)) = BB at hX ⊢
      have hlen : (Src.seq (.m S3.length)).len S7 = all.length + 1 := sq_len sq7
      simp [y5, p1, hadd, t1, m1, hlong, a_km1 (li_cell es), z5, hpow, mt, mlast, hadd2, hx, sq7.src, a_kfo, hlen, hX]
    show sem MM ((k + 17) + 1) 33 _ S = _
    rw [s33, runT]
    show fzR S.length (endR (g33 (sem MM (k + 17)) [some (.m c), some (.lst (rows.map Row.d)), none, none, none, none, none, none, none, none, none, none, none, none] S)) = _
    rw [hr]
    exact fz_tree w.cl hE hW hc rfl
  · exact hf.elim
end K08
namespace K08
open PySem PySem.Spec PyProof.Rows L2 Ev
/-! ## _law_well -/
theorem frz_rd (xs : List D) (S : Sto) : rdOf S (.frz xs) = some xs := rfl
theorem frz_ix {xs : List D} {i : Nat} {x : D} (h : xs[i]? = some x) (S : Sto) : dIx (.frz xs) (natD i) S = .ok x S := by
  show (match atI xs (i : Int) with
    | some d => R.ok d S
    | none => .bad) = _
  rw [atN h]
theorem ints_of : ∀ l : List Int, intsOf (l.map D.int) = some l
  | [] => rfl
  | i :: l => by
    show (intsOf (l.map D.int)).map (fun bs => i :: bs) = _
    rw [ints_of l]
    rfl
theorem sum_cut (zs : List Int) (lo hi : Option Int) (S : Sto) : ∃ s : Int, dSum [.lst (cut (zs.map D.int) lo hi)] S = .ok (.int s) S := by
  have e : cut (zs.map D.int) lo hi = (cut zs lo hi).map D.int := by
    unfold cut
    rw [List.length_map, List.map_take, List.map_drop]
  refine ⟨(cut zs lo hi).sum, ?_⟩
  show (match (intsOf (cut (zs.map D.int) lo hi)) with
    | some bs => R.ok (D.int bs.sum) S
    | none => .bad) = _
  rw [e, ints_of]
theorem well_ok (k : Nat) {zs : List Int} (hi : zs.length ≤ 63) {p : Nat} (hp : p < 3) (S : Sto) : ∃ a b : Nat, sem MM (k + 1) 14 [.frz (zs.map D.int), natD p] S = .ok (.m S.length) (S ++ [.lst [natD a, natD b, natD 0]]) ∧ b < 2 ^ 40 := by
  have hlen : dLen [.frz (zs.map D.int)] S = .ok (.int zs.length) S := by
    show R.ok (D.int ((zs.map D.int).length : Nat)) S = _
    rw [List.length_map]
  have big' : ∀ {i : Int}, -(2 ^ 64) < i ∧ i < 2 ^ 64 → ∀ j : Int, dMul (.int i) (.int j) S = .ok (.int (i * j)) S := fun h j => mul_int (by rw [big_ok h, Bool.true_or]) S
  have big2 : ∀ {j : Int}, -(2 ^ 64) < j ∧ j < 2 ^ 64 → ∀ i : Int, dMul (.int i) (.int j) S = .ok (.int (i * j)) S := fun h i => mul_int (by rw [big_ok h, Bool.or_true]) S
  -- the cell
  obtain ⟨ce, hce⟩ : ∃ ce : Int, ifE (unB asB (bi2 (dCo .Lt) (vrb 1) (ofL dLen (arC (vrb 0) arN)))) (bi2 dIx (vrb 0) (vrb 1)) (bi2 dAdd (bi2 dAdd (bi2 dMod (ofL dInt (arC (ofL dSum (arC (slE (vrb 0) opN (opS (cst (.int (1))))) arN)) arN)) (cst (.int (999983)))) (bi2 dMul (cst (.int (11))) (vrb 1))) (cst (.int (5)))) [some (.frz (zs.map D.int)), some (natD p), none, none, none, none] S = .ok (.int ce) S := by
    have e1 : dCo .Lt (natD p) (.int zs.length) S = .ok (.bl (decide ((p : Int) < zs.length))) S := rfl
    by_cases h : (p : Int) < zs.length
    · rw [decide_eq_true h] at e1
      have hp2 : p < zs.length := by omega
      have e2 := frz_ix (xs := zs.map D.int) (i := p) (x := .int zs[p]) (by rw [List.getElem?_map, List.getElem?_eq_getElem hp2]; rfl) S
      exact ⟨zs[p], by simp [hlen, e1, e2]⟩
    · rw [decide_eq_false h] at e1
      obtain ⟨s, e3⟩ := sum_cut zs none (some 1) S
      have e4 : dSl (.frz (zs.map D.int)) none (some 1) S = .ok (.lst (cut (zs.map D.int) none (some 1))) S := rfl
      have e5 : dMul (.int 11) (natD p) S = .ok (.int (11 * (p : Int))) S := big' (by decide) _
      have e6 : dMod (.int s) (.int 999983) S = .ok (.int (s % 999983)) S := mod_ok (by decide) S
      exact ⟨s % 999983 + 11 * (p : Int) + 5, by simp [hlen, e1, e4, e3, e5, e6]⟩
  have hen : srEn [.frz (zs.map D.int)] S = .ok (.enm (.frz (zs.map D.int))) S := rfl
  have hln : (Src.enm (.frz (zs.map D.int))).len S = zs.length + 1 := by
    show (zs.map D.int).length + 1 = _
    rw [List.length_map]
  generalize hX : forX (.enm (.frz (zs.map D.int))) (bnT 2 (bnsC (bnN 4) (bnsC (bnN 5) bnsN))) (asg (bi2 dMod (ofL dInt (arC (bi2 dAdd (bi2 dAdd (bi2 dMul (vrb 3) (cst (.int (131)))) (ofL dAbs (arC (vrb 5) arN))) (vrb 4)) arN)) (cst (.int (2147483629)))) (bnN 3)) (zs.length + 1) 0 [some (.frz (zs.map D.int)), some (natD p), some (.int ce), some (.int 0), none, none] S = X
  have its : Its (.enm (.frz (zs.map D.int))) (fun S' => S' = S) (enumD (zs.map D.int)) := fun S' e i => by
    show (rdOf S' (.frz (zs.map D.int))).map (fun xs => (xs[i]?).map fun x => D.tup [.int (i : Nat), x]) = _
    rw [frz_rd, enumD_at]
    rfl
  have key := forX_run hX its (fun i ρ S' => S' = S ∧ ∃ x e4 e5, ρ = [some (.frz (zs.map D.int)), some (natD p), some (.int ce), some (.int x), e4, e5]) (fun _ _ => False) (fun _ _ _ h => h.1) ⟨rfl, 0, none, none, rfl⟩ (by rw [enumD_len, List.length_map]; exact Nat.lt_succ_self _) (fun i y ρ S' hy ⟨h1, x, e4, e5, h2⟩ => by
    subst h1
    subst h2
    rw [enumD_at, List.getElem?_map] at hy
    obtain ⟨z, hz, rfl⟩ := Option.map_eq_some_iff.mp hy
    obtain ⟨q, hq, rfl⟩ := Option.map_eq_some_iff.mp hz
    refine ⟨[some (.frz (zs.map D.int)), some (natD p), some (.int ce), some (.int x), some (natD i), some (.int q)], rfl, .inl ⟨[some (.frz (zs.map D.int)), some (natD p), some (.int ce), some (.int ((x * 131 + (if q < 0 then -q else q) + i) % 2147483629)), some (natD i), some (.int q)], S', ?_, rfl, _, some (natD i), some (.int q), rfl⟩⟩
    have e1 : dMul (.int x) (.int 131) S' = .ok (.int (x * 131)) S' := big2 (by decide) x
    have e2 : ∀ y, dAdd (.int y) (natD i) S' = .ok (.int (y + i)) S' := fun y => rfl
    have e3 : ∀ y, dMod (.int y) (.int 2147483629) S' = .ok (.int (y % 2147483629)) S' := fun y => mod_ok (by decide) S'
    simp [e1, e2, e3])
  rcases key with ⟨ρ', S', e, h1, x, e4, e5, h2⟩ | ⟨_, _, _, h⟩
  · subst e
    subst h1
    subst h2
    have g1 : dPow (.int 10) (.int 18) S' = .ok (.int (10 ^ 18)) S' := pow_ok (i := 10) (j := 18) ⟨by decide, by decide, by decide⟩ S'
    rw [show ((10 : Int) ^ 18) = 1000000000000000000 from by decide] at g1
    have g2 : dCo .GtE (.int ce) (.int 1000000000000000000) S' = .ok (.bl (decide ((1000000000000000000 : Int) ≤ ce))) S' := rfl
    have g3 : dMul (.int 31) (.int x) S' = .ok (.int (31 * x)) S' := big' (by decide) x
    have g4 : dMul (.int 17) (natD p) S' = .ok (.int (17 * (p : Int))) S' := big' (by decide) _
    have g5 : ∀ y, dMod (.int y) (.int 2147483629) S' = .ok (.int (y % 2147483629)) S' := fun y => mod_ok (by decide) S'
    have hab : ∃ y : Int, dAbs [.int ce] S' = .ok (.int y) S' := ⟨_, rfl⟩
    obtain ⟨y, g6⟩ := hab
    have m0 := Int.emod_nonneg (y + 31 * x) (by decide : (2147483629 : Int) ≠ 0)
    have m1 := Int.emod_lt_of_pos (y + 31 * x) (by decide : (0 : Int) < 2147483629)
    have hB : D.int ((y + 31 * x) % 2147483629 + 17 * (p : Int)) = natD (((y + 31 * x) % 2147483629).toNat + 17 * p) := by
      rw [nat_of (by omega)]
      congr 1
      omega
    by_cases hc : (1000000000000000000 : Int) ≤ ce
    · rw [decide_eq_true hc] at g2
      refine ⟨ce.toNat, ((y + 31 * x) % 2147483629).toNat + 17 * p, ?_, by omega⟩
      rw [← hB, ← nat_of (by omega : 0 ≤ ce)]
      rw [s14, runF]
      unfold g14
      generalize ifE (unB asB (bi2 (dCo .Lt) (vrb 1) (ofL dLen (arC (vrb 0) arN)))) (bi2 dIx (vrb 0) (vrb 1)) (bi2 dAdd (bi2 dAdd (bi2 dMod (ofL dInt (arC (ofL dSum (arC (slE (vrb 0) opN (opS (cst (.int (1))))) arN)) arN)) (cst (.int (999983)))) (bi2 dMul (cst (.int (11))) (vrb 1))) (cst (.int (5)))) = F at hce ⊢
      simp only [List.map_cons, List.map_nil, List.length_cons, List.length_nil, Nat.reduceAdd, Nat.reduceSub, List.replicate, List.cons_append, List.nil_append]
      simp [hce, hen, a_kfo, hln, hX, g1, g2, g3, g4, g5, g6, mkC]
      rfl
    · rw [decide_eq_false hc] at g2
      refine ⟨0, ((y + 31 * x) % 2147483629).toNat + 17 * p, ?_, by omega⟩
      rw [← hB]
      rw [s14, runF]
      unfold g14
      generalize ifE (unB asB (bi2 (dCo .Lt) (vrb 1) (ofL dLen (arC (vrb 0) arN)))) (bi2 dIx (vrb 0) (vrb 1)) (bi2 dAdd (bi2 dAdd (bi2 dMod (ofL dInt (arC (ofL dSum (arC (slE (vrb 0) opN (opS (cst (.int (1))))) arN)) arN)) (cst (.int (999983)))) (bi2 dMul (cst (.int (11))) (vrb 1))) (cst (.int (5)))) = F at hce ⊢
      simp only [List.map_cons, List.map_nil, List.length_cons, List.length_nil, Nat.reduceAdd, Nat.reduceSub, List.replicate, List.cons_append, List.nil_append]
      simp [hce, hen, a_kfo, hln, hX, g1, g2, g3, g4, g5, g6, mkC]
      rfl
  · exact h.elim
end K08
namespace K08
open PySem PySem.Spec PyProof.Rows L2 Ev
/-! ## law -/
def Wells (S : Sto) : Prop := ∀ o, o ∈ S → ∃ a b n : Nat, o = .lst [natD a, natD b, natD n]
theorem Wells.cl {S : Sto} (h : Wells S) : Cl S := fun o ho => by
  obtain ⟨a, b, n, rfl⟩ := h o ho
  rfl
structure LS (c N L : Nat) (S : Sto) : Prop where
  ws : Wells S
  ln : S.length = L
  w : Wl c N S
section
variable {c N M L : Nat} {S S' : Sto}
theorem LS.lw (h : LS c N L S) (hm : M ≤ N) : Lw c M S := ⟨h.w.less hm, h.ws.cl⟩
theorem LS.step (h : LS c N L S) (w : Lw c M S') (l : S'.length = S.length) (e : Ext c S S') : LS c M L S' := by
  refine ⟨fun o ho => ?_, l.trans h.ln, w.w⟩
  obtain ⟨j, hj, q⟩ := List.mem_iff_getElem.mp ho
  by_cases hjc : j = c
  · obtain ⟨a, b, n, w1, _⟩ := w.w
    subst hjc
    rw [List.getElem?_eq_getElem hj, q] at w1
    exact ⟨a, b, n, Option.some.inj w1⟩
  · have hj2 : j < S.length := by omega
    have := e.at_ j hj2 hjc
    rw [List.getElem?_eq_getElem hj, q, List.getElem?_eq_getElem hj2] at this
    rw [Option.some.inj this]
    exact h.ws _ (List.getElem_mem hj2)
theorem LS.less (h : LS c N L S) (hm : M ≤ N) : LS c M L S := ⟨h.ws, h.ln, h.w.less hm⟩
end
/-- [f() for k in range(m)], with what stays true -/
theorem lc_gen {i m : Nat} {S : Sto} {ρ : Ev.Env} {f : Ex} {P : D → Prop} {M : Int} (J : Nat → Sto → Prop) (hr : ∀ S, rgN 1 [.int M] S = .ok (.rng 0 m) S) (hm : m ≤ 4096)
    (hf : ∀ n x S', n < m → J n S' → ∃ y S'', f ((wipeD ρ [i]).set i x) S' = .ok y S'' ∧ P y ∧ J (n + 1) S'') (h0 : J 0 S) :
    ∃ ys S', (∀ y, y ∈ ys → P y) ∧ ys.length = m ∧ J m S' ∧ ∀ mk, lcN mk [i] (srcL (rgN 1) (arC (cst (.int M)) arN)) (bnN i) yes f ρ S = mk ys S' := by
  obtain ⟨S', acc, e, h1, h2, h3⟩ := lcX_inv (s := .rng 0 m) (P := fun _ => True) (xs := rgD m) (bn := bnN i) (c := yes) (f := f) (ρ := wipeD ρ [i]) (rg_its _ _)
    (fun n S' acc => acc.length = n ∧ (∀ y, y ∈ acc → P y) ∧ J n S') (fun _ _ _ _ => trivial) (fun _ _ _ h => Nat.le_of_eq h.1) (by rw [rgD_len]; omega)
    (fun n x S' acc hx ⟨h1, h2, h3⟩ => by
      have hn : n < m := by
        have := (List.getElem?_eq_some_iff.mp hx).1
        rw [rgD_len] at this
        exact this
      obtain ⟨y, S2, g1, g2, g3⟩ := hf n (some x) S' hn h3
      refine ⟨_, true, S', rfl, rfl, ?_⟩
      rw [if_pos rfl]
      refine ⟨y, S2, g1, by simp [h1], fun z hz => ?_, g3⟩
      rcases List.mem_append.mp hz with q | q
      · exact h2 z q
      · rw [List.mem_singleton.mp q]; exact g2)
    (m + 1) 0 S [] (Nat.zero_le _) (by rw [rgD_len]; omega) ⟨rfl, fun y h => (by cases h), h0⟩
  rw [rgD_len] at h1 h3
  refine ⟨acc, S', h2, h1, h3, fun mk => ?_⟩
  rw [a_lcN]
  simp [hr]
  show (noex (lcX (.rng 0 m) (bnN i) yes f _ (m + 1) 0 S [])).bind mk = _
  rw [e]
  rfl
def lawB3 (cal : Nat → Fn) : Sm := (ifS (notB (unB asB (clP 2 (cal 32) (arC (vrb 4) (arC (vrb 6) arN))))) (Ev.ret (cst (.bl false))) skp)
def lawB2 (cal : Nat → Fn) : Sm := (sq (asg (clP 2 (cal 29) (arC (vrb 4) (arC (cst (.int (14))) arN))) (bnN 2)) (sq (forS (src1 srSq (bi2 dAdd (ofL mkL (arC (vrb 2) arN)) (lcN mkL [9] (srcL (rgN 1) (arC (cst (.int (7))) arN)) (bnN 9) yes (clP 2 (cal 31) (arC (vrb 4) (arC (vrb 2) arN)))))) (bnN 6) (lawB3 cal)) (ifS (notB (unB asB (clP 2 (cal 33) (arC (vrb 4) (arC (vrb 2) arN))))) (Ev.ret (cst (.bl false))) skp)))
def lawB1 (cal : Nat → Fn) : Sm := (sq (asg (clP 2 (cal 14) (arC (vrb 0) (arC (vrb 1) arN))) (bnN 4)) (forS (srcL (rgN 1) (arC (cst (.int (5))) arN)) (bnN 5) (lawB2 cal)))
theorem b2_ok (k : Nat) {c N L : Nat} {S : Sto} (h : LS c (N + 200000) L S) {e0 e1 e2 e3 e5 e6 e7 e8 e9 : Option D} :
    ∃ a2 a6 S', lawB2 (sem MM (k + 18)) [e0, e1, e2, e3, some (.m c), e5, e6, e7, e8, e9] S = .ok (.nx [e0, e1, a2, e3, some (.m c), e5, a6, e7, e8, e9]) S' ∧ LS c N L S' := by
  obtain ⟨rows, S1, d1, d2, d3, d4, d5, d6⟩ := g_drawn_ok (k + 14) (N := N + 120000) (h.lw (by omega : N + 120000 + 80000 ≤ N + 200000))
  have d1 : sem MM (k + 18) 29 [.m c, .int 14] S = .ok (.lst (rows.map Row.d)) S1 := d1
  have l1 : LS c (N + 120000) L S1 := h.step d4 d5 d6
  obtain ⟨ys, S2, y1, y2, l2, y4⟩ := lc_gen (i := 9) (m := 7) (S := S1) (ρ := [e0, e1, some (.lst (rows.map Row.d)), e3, some (.m c), e5, e6, e7, e8, e9]) (f := clP 2 (sem MM (k + 18) 31) (arC (vrb 4) (arC (vrb 2) arN))) (P := BX 800 8) (M := 7) (fun n S' => LS c (N + 110000 + (7 - n) * 20) L S') (src_rg 7 (by decide)) (by decide)
    (fun n x S' hn w' => by
      have e : 7 - n = (7 - (n + 1)) + 1 := by omega
      obtain ⟨d, S'', b1, b2, b3, b4, b5⟩ := bent_ok (k + 14) (N := N + 110000 + (7 - (n + 1)) * 20) d2 d3 (w'.lw (by omega))
      have b1 : sem MM (k + 18) 31 [.m c, .lst (rows.map Row.d)] S' = .ok d S'' := b1
      exact ⟨d, S'', by simp [wipeD, b1], b2, w'.step b3 b4 b5⟩) (l1.less (by omega))
  have y4 := y4 mkL
  rw [mkL_ok (by omega)] at y4
  have m1 : mkL [.lst (rows.map Row.d)] S1 = .ok (.lst [.lst (rows.map Row.d)]) S1 := rfl
  have ha : dAdd (.lst [.lst (rows.map Row.d)]) (.lst ys) S2 = .ok (.lst (.lst (rows.map Row.d) :: ys)) S2 := by
    show (if 1 + ys.length ≤ 16777216 then R.ok (D.lst ([.lst (rows.map Row.d)] ++ ys)) S2 else .bad) = _
    rw [if_pos (by omega)]
    rfl
  have hall : ∀ x, x ∈ D.lst (rows.map Row.d) :: ys → BX 800 8 x := fun x hx => by
    rcases List.mem_cons.mp hx with rfl | hx
    · exact (BX.lst (rows_bl d2.sm d3)).up (by decide) (by decide)
    · exact y1 x hx
  have hal : (D.lst (rows.map Row.d) :: ys).length = 8 := by rw [List.length_cons, y2]
  generalize D.lst (rows.map Row.d) :: ys = all at ha hall hal
  generalize hX : forX (.seq (.lst all)) (bnN 6) (lawB3 (sem MM (k + 18))) (all.length + 1) 0 [e0, e1, some (.lst (rows.map Row.d)), e3, some (.m c), e5, e6, e7, e8, e9] S2 = X
  have key := forX_run hX (P := fun _ => True) (xs := all) (sq_its (S := S2) _ fun S' _ => .inl rfl) (fun i ρ S' => (∃ a6, ρ = [e0, e1, some (.lst (rows.map Row.d)), e3, some (.m c), e5, a6, e7, e8, e9]) ∧ LS c (N + 50000 + (8 - i) * 2000) L S') (fun _ _ => False) (fun _ _ _ _ => trivial) ⟨⟨e6, rfl⟩, l2.less (by omega)⟩ (Nat.lt_succ_self _) (fun i x ρ S' hx ⟨⟨a6, h1⟩, h2⟩ => by
    subst h1
    have hi : i < all.length := (List.getElem?_eq_some_iff.mp hx).1
    have e : 8 - i = (8 - (i + 1)) + 1 := by omega
    obtain ⟨S'', j1, j2, j3, j4⟩ := judged_ok (k + 1) (N := N + 50000 + (8 - (i + 1)) * 2000) (hall x (List.mem_of_getElem? hx)) (h2.lw (by omega))
    have j1 : sem MM (k + 18) 32 [.m c, x] S' = .ok (.bl true) S'' := j1
    exact ⟨_, rfl, .inl ⟨[e0, e1, some (.lst (rows.map Row.d)), e3, some (.m c), e5, some x, e7, e8, e9], S'', by simp [lawB3, j1], ⟨some x, rfl⟩, h2.step j2 j3 j4⟩⟩)
  rcases key with ⟨ρ', S3, e, ⟨a6, h1⟩, l3⟩ | ⟨_, _, _, hf⟩
  · subst e
    subst h1
    obtain ⟨S4, p1, p2, p3, p4⟩ := put_right_ok k (N := N) d2 d3 (l3.lw (by omega))
    refine ⟨some (.lst (rows.map Row.d)), a6, S4, ?_, l3.step p2 p3 p4⟩
    unfold lawB2
    generalize lcN mkL [9] (srcL (rgN 1) (arC (cst (.int 7)) arN)) (bnN 9) yes (clP 2 (sem MM (k + 18) 31) (arC (vrb 4) (arC (vrb 2) arN))) = F at y4 ⊢
    generalize lawB3 (sem MM (k + 18)) = B3 at hX ⊢
    have hs : srSq (.lst all) S2 = .ok (.seq (.lst all)) S2 := rfl
    have hl : (Src.seq (.lst all)).len S2 = all.length + 1 := rfl
    simp [d1, m1, y4, ha, hs, a_kfo, hl, hX, p1]
  · exact hf.elim
theorem b1_ok (k : Nat) {L : Nat} {S : Sto} (hw : Wells S) (hl : S.length = L) {zs : List Int} (hz : zs.length ≤ 63) {p : Nat} (hp : p < 3) {e2 e3 e4 e5 e6 e7 e8 e9 : Option D} :
    ∃ a2 a4 a5 a6 S', lawB1 (sem MM (k + 18)) [some (.frz (zs.map D.int)), some (natD p), e2, e3, e4, e5, e6, e7, e8, e9] S = .ok (.nx [some (.frz (zs.map D.int)), some (natD p), a2, e3, a4, a5, a6, e7, e8, e9]) S' ∧ Wells S' ∧ S'.length = L + 1 := by
  obtain ⟨a, b, w1, w2⟩ := well_ok (k + 17) hz hp S
  have w1 : sem MM (k + 18) 14 [.frz (zs.map D.int), natD p] S = .ok (.m S.length) (S ++ [.lst [natD a, natD b, natD 0]]) := w1
  have l1 : LS S.length 1000000 (L + 1) (S ++ [.lst [natD a, natD b, natD 0]]) := ⟨fun o ho => by
    rcases List.mem_append.mp ho with q | q
    · exact hw o q
    · exact ⟨a, b, 0, List.mem_singleton.mp q⟩, by simp [hl], a, b, 0, get0 _ _ _, w2, by decide⟩
  generalize S ++ [Ob.lst [natD a, natD b, natD 0]] = S1 at w1 l1
  generalize hX : forX (.rng 0 5) (bnN 5) (lawB2 (sem MM (k + 18))) (5 + 1) 0 [some (.frz (zs.map D.int)), some (natD p), e2, e3, some (.m S.length), e5, e6, e7, e8, e9] S1 = X
  have key := forX_run hX (P := fun _ => True) (xs := rgD 5) (rg_its _ _) (fun i ρ S' => (∃ a2 a5 a6, ρ = [some (.frz (zs.map D.int)), some (natD p), a2, e3, some (.m S.length), a5, a6, e7, e8, e9]) ∧ LS S.length ((5 - i) * 200000) (L + 1) S') (fun _ _ => False) (fun _ _ _ _ => trivial) ⟨⟨e2, e5, e6, rfl⟩, l1.less (by omega)⟩ (by rw [rgD_len]; decide) (fun i x ρ S' hx ⟨⟨a2, a5, a6, h1⟩, h2⟩ => by
    subst h1
    have hi : i < 5 := by
      have := (List.getElem?_eq_some_iff.mp hx).1
      rw [rgD_len] at this
      exact this
    have e : 5 - i = (5 - (i + 1)) + 1 := by omega
    obtain ⟨b2, b6, S'', j1, j2⟩ := b2_ok k (c := S.length) (N := (5 - (i + 1)) * 200000) (L := L + 1) (h2.less (by omega)) (e0 := some (.frz (zs.map D.int))) (e1 := some (natD p)) (e2 := a2) (e3 := e3) (e5 := some x) (e6 := a6) (e7 := e7) (e8 := e8) (e9 := e9)
    exact ⟨_, rfl, .inl ⟨_, S'', j1, ⟨b2, some x, b6, rfl⟩, j2⟩⟩)
  rcases key with ⟨ρ', S2, e, ⟨a2, a5, a6, h1⟩, l2⟩ | ⟨_, _, _, hf⟩
  · subst e
    subst h1
    refine ⟨a2, some (.m S.length), a5, a6, S2, ?_, l2.ws, l2.ln⟩
    have hr : rgN 1 [.int 5] S1 = .ok (.rng 0 5) S1 := src_rg 5 (by decide) S1
    unfold lawB1
    generalize lawB2 (sem MM (k + 18)) = B2 at hX ⊢
    simp [w1, hr, a_kfo]
    show forX (.rng 0 5) (bnN 5) B2 (5 + 1) 0 _ S1 = _
    rw [hX]
  · exact hf.elim
/-! ### odd rows, one by one -/
def R5 : List Row := [.step false "one" [], .step false "f" [0, 0], .step false "f" [1, 1], .step true "t" [2], .either 3 2 0]
def oddsL : List (D × Str) := [((Row.either 3 2 2).d, "alike"), ((Row.either 2 0 1).d, "kind"), ((Row.step false "f" [5]).d, "ahead"), ((Row.step false "f" [0, 0]).d, "twice"), ((Row.step false "f" [3]).d, "kind"), ((Row.either 3 3 0).d, "kind"), ((Row.step true "t" [4, 3]).d, "kind"),
  ((Row.either 7 2 2).d, "ahead"), ((Row.either 2 1 1).d, "kind"), (.tup [.str "given", .bl true], "form"), (.tup [.str "given", .int (-1)], "form"), (.tup [.str "made", .str "one", .lst [.bl true]], "form"), (.lst [], "form")]
def oddOk (p : D × Str) : Bool := decide ((fault (.lst (R5.map Row.d ++ [p.1]))).2 = some (5, p.2)) && (trB (.lst (R5.map Row.d ++ [p.1])) && decide (wt (.lst (R5.map Row.d ++ [p.1])) ≤ 4096))
theorem odds_ok : oddsL.all oddOk = true := by decide +kernel
theorem odd_at {p : D × Str} (h : p ∈ oddsL) : (fault (.lst (R5.map Row.d ++ [p.1]))).2 = some (5, p.2) ∧ Tr (.lst (R5.map Row.d ++ [p.1])) := by
  have e : oddOk p = true := List.all_eq_true.mp odds_ok p h
  unfold oddOk at e
  rw [Bool.and_eq_true, Bool.and_eq_true] at e
  exact ⟨of_decide_eq_true e.1, e.2.1, of_decide_eq_true e.2.2⟩
end K08
namespace K08
open PySem PySem.Spec PyProof.Rows L2 Ev
def oddsD : List D := oddsL.map fun p => .tup [p.1, .str p.2]
def lawQ (cal : Nat → Fn) (q : Sm) : Sm := (sq (asg (ofL mkC (arC (ofL mkT (arC (cst (.str "made")) (arC (cst (.str "one")) (arC (ofL mkT arN) arN)))) (arC (ofL mkT (arC (cst (.str "made")) (arC (cst (.str "f")) (arC (ofL mkT (arC (cst (.int (0))) (arC (cst (.int (0))) arN))) arN)))) (arC (ofL mkT (arC (cst (.str "made")) (arC (cst (.str "f")) (arC (ofL mkT (arC (cst (.int (1))) (arC (cst (.int (1))) arN))) arN)))) (arC (ofL mkT (arC (cst (.str "asked")) (arC (cst (.str "t")) (arC (ofL mkT (arC (cst (.int (2))) arN)) arN)))) arN))))) (bnN 2)) (sq (dro (mthL dApp (vrb 2) (arC (ofL mkT (arC (cst (.str "either")) (arC (cst (.int (3))) (arC (cst (.int (2))) (arC (cst (.int (0))) arN))))) arN))) (sq (asg (ofL mkC (arC (ofL mkT (arC (ofL mkT (arC (cst (.str "either")) (arC (cst (.int (3))) (arC (cst (.int (2))) (arC (cst (.int (2))) arN))))) (arC (cst (.str "alike")) arN))) (arC (ofL mkT (arC (ofL mkT (arC (cst (.str "either")) (arC (cst (.int (2))) (arC (cst (.int (0))) (arC (cst (.int (1))) arN))))) (arC (cst (.str "kind")) arN))) (arC (ofL mkT (arC (ofL mkT (arC (cst (.str "made")) (arC (cst (.str "f")) (arC (ofL mkT (arC (cst (.int (5))) arN)) arN)))) (arC (cst (.str "ahead")) arN))) arN)))) (bnN 3)) (sq (dro (mthL dExt (vrb 3) (arC (ofL mkL (arC (ofL mkT (arC (ofL mkT (arC (cst (.str "made")) (arC (cst (.str "f")) (arC (ofL mkT (arC (cst (.int (0))) (arC (cst (.int (0))) arN))) arN)))) (arC (cst (.str "twice")) arN))) (arC (ofL mkT (arC (ofL mkT (arC (cst (.str "made")) (arC (cst (.str "f")) (arC (ofL mkT (arC (cst (.int (3))) arN)) arN)))) (arC (cst (.str "kind")) arN))) (arC (ofL mkT (arC (ofL mkT (arC (cst (.str "either")) (arC (cst (.int (3))) (arC (cst (.int (3))) (arC (cst (.int (0))) arN))))) (arC (cst (.str "kind")) arN))) arN)))) arN))) (sq (dro (mthL dExt (vrb 3) (arC (ofL mkL (arC (ofL mkT (arC (ofL mkT (arC (cst (.str "asked")) (arC (cst (.str "t")) (arC (ofL mkT (arC (cst (.int (4))) (arC (cst (.int (3))) arN))) arN)))) (arC (cst (.str "kind")) arN))) (arC (ofL mkT (arC (ofL mkT (arC (cst (.str "either")) (arC (cst (.int (7))) (arC (cst (.int (2))) (arC (cst (.int (2))) arN))))) (arC (cst (.str "ahead")) arN))) (arC (ofL mkT (arC (ofL mkT (arC (cst (.str "either")) (arC (cst (.int (2))) (arC (cst (.int (1))) (arC (cst (.int (1))) arN))))) (arC (cst (.str "kind")) arN))) arN)))) arN))) (sq (dro (mthL dExt (vrb 3) (arC (ofL mkL (arC (ofL mkT (arC (ofL mkT (arC (cst (.str "given")) (arC (cst (.bl true)) arN))) (arC (cst (.str "form")) arN))) (arC (ofL mkT (arC (ofL mkT (arC (cst (.str "given")) (arC (un1 dNeg (cst (.int (1)))) arN))) (arC (cst (.str "form")) arN))) (arC (ofL mkT (arC (ofL mkT (arC (cst (.str "made")) (arC (cst (.str "one")) (arC (ofL mkL (arC (cst (.bl true)) arN)) arN)))) (arC (cst (.str "form")) arN))) (arC (ofL mkT (arC (ofL mkL arN) (arC (cst (.str "form")) arN))) arN))))) arN))) q))))))
def lawE (cal : Nat → Fn) : Sm := (sq (ifS (notB (unB asB (ofL dAll (arC (lcN mkL [7, 8] (src1 srSq (vrb 3)) (bnT 2 (bnsC (bnN 7) (bnsC (bnN 8) bnsN))) yes (clP 2 (cal 18) (arC (clP 1 (cal 9) (arC (bi2 dAdd (vrb 2) (ofL mkL (arC (vrb 7) arN))) arN)) (arC (ofL mkT (arC (cst (.int (5))) (arC (vrb 8) arN))) arN)))) arN)))) (Ev.ret (cst (.bl false))) skp) (Ev.ret (andV (bi2 (dCo .Is) (clP 1 (cal 9) (arC (ofL mkL arN) arN)) (cst .non)) (clP 2 (cal 18) (arC (clP 2 (cal 13) (arC (vrb 2) (arC (ofL mkL (arC (cst (.str "made")) (arC (cst (.str "one")) (arC (ofL mkL arN) arN)))) arN))) (arC (ofL mkT (arC (vrb 2) (arC (cst (.int (0))) arN))) arN))))))
theorem g34_eq (cal : Nat → Fn) : g34 cal = sq (forS (srcL (rgN 1) (arC (cst (.int (3))) arN)) (bnN 1) (lawB1 cal)) (lawQ cal (lawE cal)) := rfl
theorem lawQ_ok (cal : Nat → Fn) (q : Sm) (w0 w1 w2 : Ob) (e0 e1 e2 e3 e4 e5 e6 e7 e8 e9 : Option D) : lawQ cal q [e0, e1, e2, e3, e4, e5, e6, e7, e8, e9] [w0, w1, w2] = q [e0, e1, some (.m 3), some (.m 4), e4, e5, e6, e7, e8, e9] [w0, w1, w2, .lst (R5.map Row.d), .lst oddsD] := by kernel_rfl
theorem R5_flt : fault (.lst (R5.map Row.d)) = (R5, none) := by decide +kernel
def r1L : D := .lst [.str "made", .str "one", .lst []]
theorem r1_form : formR r1L = some (.step false "one" []) ∧ why R5 (.step false "one" []) = none ∧ putR R5 (.step false "one" []) = R5 ∧ R5.idxOf (.step false "one" []) = 0 := by decide +kernel
theorem r1_tr : Tr r1L := ⟨by decide +kernel, by decide +kernel⟩
theorem R5_tr : Tr (.lst (R5.map Row.d)) := ⟨by decide +kernel, by decide +kernel⟩
theorem R5_len : (R5.map Row.d).length = 5 := rfl
theorem lawE_ok (k : Nat) {S : Sto} (h3 : S[3]? = some (.lst (R5.map Row.d))) (h4 : S[4]? = some (.lst oddsD)) (e0 e1 e4 e5 e6 e7 e8 e9 : Option D) : ∃ S', endR (lawE (sem MM (k + 18)) [e0, e1, some (.m 3), some (.m 4), e4, e5, e6, e7, e8, e9] S) = .ok (.bl true) S' := by
  have sq4 : Sq S (.m 4) oddsD := .inr (.inr ⟨4, rfl, h4⟩)
  have hod : oddsD.length = 13 := rfl
  obtain ⟨S1, acc, e, b1, b2, b3⟩ := lcX_inv (s := .seq (.m 4)) (P := fun S' => App S S') (xs := oddsD) (bn := bnT 2 (bnsC (bnN 7) (bnsC (bnN 8) bnsN))) (c := yes) (f := clP 2 (sem MM (k + 18) 18) (arC (clP 1 (sem MM (k + 18) 9) (arC (bi2 dAdd (vrb 2) (ofL mkL (arC (vrb 7) arN))) arN)) (arC (ofL mkT (arC (cst (.int (5))) (arC (vrb 8) arN))) arN))) (ρ := [e0, e1, some (.m 3), some (.m 4), e4, e5, e6, none, none, e9])
    (sq_its (S := S) _ fun S' ⟨T, hT⟩ => by rw [hT]; exact sq4.app) (fun i S' acc => App S S' ∧ acc = (List.replicate i true).map D.bl ∧ acc.length = i) (fun _ _ _ h => h.1) (fun _ _ _ h => Nat.le_of_eq h.2.2) (by rw [hod]; decide) (fun i x S' acc hx ⟨a1, a2, a3⟩ => by
      obtain ⟨p, hp, rfl⟩ := List.mem_map.mp (List.mem_of_getElem? hx)
      obtain ⟨f1, t1⟩ := odd_at hp
      have c3 : S'[3]? = some (.lst (R5.map Row.d)) := a1.at h3
      have ha := add_cell c3 (ys := [p.1]) (by rw [R5_len]; exact (by decide : 5 + 1 ≤ 16777216))
      obtain ⟨S2, g1, g2⟩ := web_fault_app (k + 12) (S := S') (u := .lst (R5.map Row.d ++ [p.1])) Rd.here t1
      have g1 : sem MM (k + 18) 9 [.lst (R5.map Row.d ++ [p.1])] S' = .ok (optF (some (5, p.2))) S2 := by
        rw [← f1]
        exact g1
      have bo := opt_bx t1
      rw [f1] at bo
      have hs : sem MM (k + 18) 18 [.tup [.int 5, .str p.2], .tup [.int 5, .str p.2]] S2 = .ok (.bl true) S2 := same_refl (k + 6) (bo.up (Nat.le_refl _) (by decide)) (by decide) S2
      have m1 : mkL [p.1] S' = .ok (.lst [p.1]) S' := rfl
      have m2 : ∀ S, mkT [.int 5, .str p.2] S = .ok (.tup [.int 5, .str p.2]) S := fun S => rfl
      have g1 : sem MM (k + 18) 9 [.lst (R5.map Row.d ++ [p.1])] S' = .ok (.tup [.int 5, .str p.2]) S2 := g1
      refine ⟨[e0, e1, some (.m 3), some (.m 4), e4, e5, e6, some p.1, some (.str p.2), e9], true, S', rfl, rfl, ?_⟩
      rw [if_pos rfl]
      refine ⟨.bl true, S2, ?_, ?_, ?_, by simp [a3]⟩
      · generalize R5.map Row.d = RR at ha g1
        simp [m1, ha, g1, m2, hs]
      · obtain ⟨T1, q1⟩ := a1
        obtain ⟨T2, q2⟩ := g2
        exact ⟨T1 ++ T2, by rw [q2, q1, List.append_assoc]⟩
      · rw [a2, List.replicate_succ', List.map_append]
        rfl) (13 + 1) 0 S [] (Nat.zero_le _) (by rw [hod]; decide) ⟨⟨[], by simp⟩, rfl, rfl⟩
  rw [hod] at b2 b3
  have hlc : lcN mkL [7, 8] (src1 srSq (vrb 3)) (bnT 2 (bnsC (bnN 7) (bnsC (bnN 8) bnsN))) yes (clP 2 (sem MM (k + 18) 18) (arC (clP 1 (sem MM (k + 18) 9) (arC (bi2 dAdd (vrb 2) (ofL mkL (arC (vrb 7) arN))) arN)) (arC (ofL mkT (arC (cst (.int (5))) (arC (vrb 8) arN))) arN))) [e0, e1, some (.m 3), some (.m 4), e4, e5, e6, e7, e8, e9] S = .ok (.lst acc) S1 := by
    rw [a_lcN]
    simp [sq4.src]
    show (noex (lcX (.seq (.m 4)) _ yes _ _ ((Src.seq (.m 4)).len S) 0 S [])).bind mkL = _
    rw [sq_len sq4, hod]
    simp only [wipeD, List.set_cons_succ, List.set_cons_zero]
    rw [e]
    exact mkL_ok (by omega) S1
  have hall : dAll [.lst acc] S1 = .ok (.bl true) S1 := by
    rw [b2]
    rfl
  have c3 : S1[3]? = some (.lst (R5.map Row.d)) := b1.at h3
  obtain ⟨S2, g1, g2⟩ := web_fault_app (k + 12) (S := S1) (u := .lst []) (d := .lst []) Rd.here ⟨rfl, by decide⟩
  have g1 : sem MM (k + 18) 9 [.lst []] S1 = .ok .non S2 := g1
  have d3 : S2[3]? = some (.lst (R5.map Row.d)) := g2.at c3
  obtain ⟨r1, r2, r3, r4⟩ := r1_form
  obtain ⟨S3, p1, p2, p3, p4⟩ := put_good (k + 11) (S := S2) (u := .m 3) (x := r1L) (.inr ⟨3, _, rfl, d3, rfl⟩) R5_tr Rd.here r1_tr (by rw [R5_flt]) r1 (by rw [R5_flt]; exact r2)
  rw [R5_flt] at p1 p3
  simp only [] at p1 p3
  rw [r3] at p1 p3
  rw [r4] at p1
  have p1 : sem MM (k + 18) 13 [.m 3, r1L] S2 = .ok (.tup [.m S2.length, .int 0]) S3 := p1
  have q3 : S3[3]? = some (.lst (R5.map Row.d)) := p2.at d3
  have tT : Tr (.tup [.lst (R5.map Row.d), .int 0]) := ⟨by decide +kernel, by decide +kernel⟩
  have rt : ∀ j, S3[j]? = some (.lst (R5.map Row.d)) → RT S3 (.tup [.lst (R5.map Row.d), .int 0]) (.tup [.m j, .int 0]) := fun j hj => ⟨_, rfl, _, _, rfl, ⟨_, .inr ⟨j, rfl, hj⟩, RTs.refl _ _ R5_tr.sh⟩, _, _, rfl, rfl, rfl⟩
  have hs : sem MM (k + 18) 18 [.tup [.m S2.length, .int 0], .tup [.m 3, .int 0]] S3 = .ok (.bl true) S3 := same_ok 12 _ tT (by decide +kernel) (k + 6) S3 _ _ (rt _ p3) (rt 3 q3)
  have m0 : ∀ S, mkL [] S = .ok (.lst []) S := fun S => rfl
  have m3 : ∀ S, mkL [.str "made", .str "one", .lst []] S = .ok r1L S := fun S => rfl
  have m2 : ∀ S, mkT [.m 3, .int 0] S = .ok (.tup [.m 3, .int 0]) S := fun S => rfl
  refine ⟨S3, ?_⟩
  unfold lawE
  generalize lcN mkL [7, 8] (src1 srSq (vrb 3)) (bnT 2 (bnsC (bnN 7) (bnsC (bnN 8) bnsN))) yes (clP 2 (sem MM (k + 18) 18) (arC (clP 1 (sem MM (k + 18) 9) (arC (bi2 dAdd (vrb 2) (ofL mkL (arC (vrb 7) arN))) arN)) (arC (ofL mkT (arC (cst (.int (5))) (arC (vrb 8) arN))) arN))) = F at hlc ⊢
  simp [hlc, hall, m0, g1, isNon_non, m3, p1, m2, hs]
theorem law_ok (k : Nat) {zs : List Int} (hz : zs.length ≤ 63) : ∃ S', sem MM (k + 19) 34 [.frz (zs.map D.int)] [] = .ok (.bl true) S' := by
  generalize hX : forX (.rng 0 3) (bnN 1) (lawB1 (sem MM (k + 18))) (3 + 1) 0 [some (.frz (zs.map D.int)), none, none, none, none, none, none, none, none, none] [] = X
  have key := forX_run hX (P := fun _ => True) (xs := rgD 3) (rg_its _ _) (fun i ρ S' => (∃ e1 a2 a4 a5 a6, ρ = [some (.frz (zs.map D.int)), e1, a2, none, a4, a5, a6, none, none, none]) ∧ Wells S' ∧ S'.length = i) (fun _ _ => False) (fun _ _ _ _ => trivial) ⟨⟨none, none, none, none, none, rfl⟩, fun o ho => (by cases ho), rfl⟩ (by rw [rgD_len]; decide) (fun i x ρ S' hx ⟨⟨e1, a2, a4, a5, a6, h1⟩, h2, h3⟩ => by
    subst h1
    have hi : i < 3 := by
      have := (List.getElem?_eq_some_iff.mp hx).1
      rw [rgD_len] at this
      exact this
    have hxe : x = natD i := by
      unfold rgD at hx
      rw [List.getElem?_map, List.getElem?_range hi] at hx
      exact (Option.some.inj hx).symm
    subst hxe
    obtain ⟨b2, b4, b5, b6, S'', j1, j2, j3⟩ := b1_ok k (S := S') h2 h3 hz hi (e2 := a2) (e3 := none) (e4 := a4) (e5 := a5) (e6 := a6) (e7 := none) (e8 := none) (e9 := none)
    exact ⟨_, rfl, .inl ⟨_, S'', j1, ⟨some (natD i), b2, b4, b5, b6, rfl⟩, j2, j3⟩⟩)
  rcases key with ⟨ρ', S3, e, ⟨e1, a2, a4, a5, a6, h1⟩, h2, h3⟩ | ⟨_, _, _, hf⟩
  · subst e
    subst h1
    rw [rgD_len] at h3
    obtain ⟨w0, w1, w2, rfl⟩ : ∃ w0 w1 w2, S3 = [w0, w1, w2] := by
      match S3, h3 with
      | [a, b, c], _ => exact ⟨a, b, c, rfl⟩
    obtain ⟨S', hE⟩ := lawE_ok k (S := [w0, w1, w2, .lst (R5.map Row.d), .lst oddsD]) rfl rfl (some (.frz (zs.map D.int))) e1 a4 a5 a6 none none none
    refine ⟨S', ?_⟩
    have hr : rgN 1 [.int 3] ([] : Sto) = .ok (.rng 0 3) [] := src_rg 3 (by decide) []
    show sem MM ((k + 18) + 1) 34 _ _ = _
    rw [s34, runF, g34_eq]
    show endR ((sq (forS (srcL (rgN 1) (arC (cst (.int (3))) arN)) (bnN 1) (lawB1 (sem MM (k + 18)))) (lawQ (sem MM (k + 18)) (lawE (sem MM (k + 18))))) [some (.frz (zs.map D.int)), none, none, none, none, none, none, none, none, none] []) = _
    have hf : forS (srcL (rgN 1) (arC (cst (.int (3))) arN)) (bnN 1) (lawB1 (sem MM (k + 18))) [some (.frz (zs.map D.int)), none, none, none, none, none, none, none, none, none] [] = .ok (.nx [some (.frz (zs.map D.int)), e1, a2, none, a4, a5, a6, none, none, none]) [w0, w1, w2] := by
      rw [a_forS, a_srcL, a_arC, a_cst, R.bind_ok, a_kc, a_arN, R.bind_ok, a_kn, R.bind_ok, hr, R.bind_ok]
      exact hX
    rw [a_sq, hf, R.bind_ok, a_folN, lawQ_ok]
    exact hE
  · exact hf.elim
end K08
namespace K08
open PySem PySem.Spec PyProof.Rows L2 Ev
/-! ## the end: head, walk, plain law -/
section
variable {w : World} {h : Heap} {K : PySem.W.Frag} {mg : Str → Option Value}
def spL (w : World) (K : PySem.W.Frag) (mg : Str → Option Value) : Sp := fun vs H Q E => ∀ base : Heap, spF (Gk w K mg base) 1 (sem MM 19 34) vs H Q E
theorem frz_reps (G : Gc) (H : Hp) : ∀ ns : List Int, Reps G H [] [] (ns.map D.int) (ns.map V.int)
  | [] => rfl
  | n :: ns => ⟨_, _, rfl, rfl, frz_reps G H ns⟩
theorem spL_end {a : Addr} {ns : List Int} {vs : List Value} (hl : ns.length ≤ 63) (na : a ∉ (tf.map (He.cT K)).map (·.2)) : spL w K mg [.ref a] (endH a ns vs ((tf.map (He.cT K)).map (·.2))) (fun v _ => v = .bl true) fun _ _ _ => False := by
  intro base
  obtain ⟨S', e⟩ := law_ok 0 hl
  have e : sem MM 19 34 [.frz (ns.map D.int)] [] = .ok (.bl true) S' := e
  have ha : endH a ns vs ((tf.map (He.cT K)).map (·.2)) a = some (.frz (eScr vs) (.lst (ns.map V.int))) := if_pos rfl
  refine ⟨rfl, [], [], [], [.frz (ns.map D.int)], ?_, ?_, ?_⟩
  · refine ⟨rfl, List.nodup_nil, fun a h => (by cases h), fun k o a h => (by simp at h), fun a h => (by cases h), fun p hp => ?_⟩
    obtain ⟨t, ht, rfl⟩ := List.mem_map.mp hp
    have hm : (He.cT K t).2 ∈ (tf.map (He.cT K)).map (·.2) := List.mem_map.mpr ⟨_, List.mem_map.mpr ⟨t, ht, rfl⟩, rfl⟩
    have e2 : endH a ns vs ((tf.map (He.cT K)).map (·.2)) (He.cT K t).2 = some (.tbl #[]) := (if_neg fun z => na (by rw [← z]; exact hm)).trans (if_pos hm)
    exact ⟨#[], e2, trivial, fun pos cv z => by cases z⟩
  · exact ⟨_, [], rfl, ⟨a, _, _, rfl, ha, by simp, by simp, frz_reps _ _ ns⟩, rfl⟩
  · show Good _ _ [] [] _ _ _ (sem MM 19 34 [.frz (ns.map D.int)] [])
    rw [e]
    exact fun own' H' x _ _ r => r
theorem lawG (q : SaysW cfg w h K) (KX : K.In h) (hG : h.Ns mainGlobals mg) {fa : Addr} (hfa : mg ("law" : Str) = some (.ref fa)) : LawG PySem.Challenge.rw_pagestrue_k08_whole_webs_judged w 57 63 "_law_script" mg fa h := by
  have e := hfa.symm.trans (He.glo_ok KX hG (q.fac (f := .glo "law") (List.mem_of_getElem? (i := 35) rfl)))
  cases e
  have m := more q
  refine ⟨K, fdAt K (He.ga K "law"), tf.map (He.cT K), spL w K mg, KX, m.nol, fun p hp => ?_, fun p hp => ?_, fun p hp => ?_, fun s u => ?_, fun a ns vs hl _ na => spL_end hl na, fun base KB hGb TB MO => ?_⟩
  · obtain ⟨t, ht, rfl⟩ := List.mem_map.mp hp
    exact q.emp t ht
  · obtain ⟨t, ht, rfl⟩ := List.mem_map.mp hp
    exact q.out t ht
  · obtain ⟨t, ht, rfl⟩ := List.mem_map.mp hp
    exact PySem.W.codeHd_of_K KX (q.hd t ht)
  · exact ((q.vfn (List.mem_of_getElem? (i := 35) rfl)).bindsA (ps := ["_law_script"]) fun _ _ _ _ _ _ us hl => match us, hl with | [_], _ => rfl) s [u] rfl
  · have F := lawF q KX hG KB (fun t ht => TB _ (List.mem_map.mpr ⟨t, ht, rfl⟩)) 19
    exact ⟨fun vs H Q E z => F.len vs H Q E (z base), fun A outer s H args us vs Q E r g e0 b v z => F.go A outer s H args us vs Q E r g e0 b v (z base)⟩
end
end K08
open PySem PySem.W PySem.Calls PyProof.Rows
theorem PySem.Challenge.cw_pagestrue_k08_whole_webs_judged_holds : PySem.Challenge.rw_pagestrue_k08_whole_webs_judged.Holds := by
  w_on; o_law
  refine HandSHeadRun.head_any (r := OpenLaw.row PySem.Challenge.rw_pagestrue_k08_whole_webs_judged) (q := view (OpenLaw.row PySem.Challenge.rw_pagestrue_k08_whole_webs_judged).prog [45]) (H := K08.cfg.hook) (ob := K08.ob) (M := 6000) (loose := K08.lo) (d := HandSHeadRun.topDef (OpenLaw.row PySem.Challenge.rw_pagestrue_k08_whole_webs_judged).prog 45) (kwd := []) K08.ob_eq
    (by kernel_rfl) (fun s => by kernel_rfl) K08.run (by kernel_rfl) (by kernel_rfl) (by kernel_rfl) (by rfl) (by first | assumption | decide +kernel) (by decide +kernel) ⟨rfl, rfl, rfl, rfl, rfl, by decide +kernel⟩ ?hw ?hc
  case hw => w_witness2
  case hc =>
    refine Ev.walkG (l := PySem.Challenge.rw_pagestrue_k08_whole_webs_judged) (n := 63) (k := 57) (x := "_law_script") rfl (by decide) (by kernel_rfl) ⟨rfl, by decide, by decide⟩ ?F
    intro w mg fa h Y G hmg0
    obtain ⟨K, KX, c⟩ := Y
    have hmg : mg ("law" : PySem.Str) = some (.ref fa) := by
      have e : (HandSHeadRun.topDef (OpenLaw.row PySem.Challenge.rw_pagestrue_k08_whole_webs_judged).prog 45).name = ("law" : PySem.Str) := by kernel_rfl
      rw [← e]
      exact hmg0
    exact K08.lawG c KX G hmg
