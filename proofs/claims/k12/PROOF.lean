import PyProof.Rows.All
import Wide.All
import OpenK.AllK
import Wide.FinOn
import PySem.Challenge.RW_settledlots_k12_whole_lots_joined_common
import HandS.ForMost
import KE.DataCmp
import HandS.Zip
import HandS.Style
import KE.SortData
import HandS.TupAny
import HandS.TupMul
import HandS.Deep
import HandS.IsInst
import HandS.Strs
import HandS.SetFor
import HandS.WideBits
import PyProof.P3In
import PyProof.ReprRoads
import HandS.EndBits
import PyProof.StrLawsRepr
set_option Elab.async false
set_option linter.all false
set_option maxRecDepth 100000
set_option maxHeartbeats 4000000
/-! DL1: the data layer's values, and what it means that slots and heap hold them. -/
namespace DL
open PySem PySem.Spec PyProof.Rows L2

/-- what an expression gives: data, a new list, or a slot's own list lent -/
inductive Val where
  | d (x : PyData) | n (x : PyData) | b (i : Nat)
/-- what a slot holds: data that nobody changes, a list of the frame's own, a list lent to be read -/
inductive SV where
  | d (x : PyData) | own (xs : List PyData) | ro (xs : List PyData)
abbrev Env := List (Option SV)
def slotD : Option (Option SV) → Option PyData
  | some (some (.d x)) => some x
  | some (some (.own xs)) => some (.list xs)
  | some (some (.ro xs)) => some (.list xs)
  | _ => none
def dat (ρ : Env) : Val → Option PyData
  | .d x => some x
  | .n x => some x
  | .b i => slotD ρ[i]?

/-- a list, a tuple of the written part -/
def KLst (K : PySem.W.Frag) (a : Addr) (xs : List V) : Prop := ∃ (o : Obj) (its : Array Value) (n : Nat), K.lookup a = some o ∧ o.cls = .type "list" ∧ o.dict = none ∧ o.data = .seq its n ∧ its.size ≤ sizeLine ∧ Vals xs its.toList
def KTup (K : PySem.W.Frag) (a : Addr) (xs : List V) : Prop := ∃ (o : Obj) (its : Array Value) (n : Nat), K.lookup a = some o ∧ o.cls = .type "tuple" ∧ o.data = .seq its n ∧ its.size ≤ sizeLine ∧ Vals xs its.toList

mutual
/-- v stands for the data in the heap, by way of no address of B -/
inductive Good (K : PySem.W.Frag) (B : Addr → Prop) (H : Hp) : V → PyData → Prop
  | non : Good K B H .non .none
  | bl (b : Bool) : Good K B H (.bl b) (.bool b)
  | int (i : Int) : Good K B H (.int i) (.int i)
  | str (x : Str) : Good K B H (.str x) (.str x)
  | lst {a : Addr} {xs : List V} {ds : List PyData} : ¬ B a → Rd H a (.lst xs) → GoodAll K B H xs ds → Good K B H (.ref a) (.list ds)
  | lstK {a : Addr} {xs : List V} {ds : List PyData} : KLst K a xs → GoodAll K B H xs ds → Good K B H (.ref a) (.list ds)
  | tup {a : Addr} {xs : List V} {ds : List PyData} : ¬ B a → Rd H a (.tup xs) → GoodAll K B H xs ds → Good K B H (.ref a) (.tuple ds)
  | tupK {a : Addr} {xs : List V} {ds : List PyData} : KTup K a xs → GoodAll K B H xs ds → Good K B H (.ref a) (.tuple ds)
  | dic0 {a : Addr} : ¬ B a → H a = some (.dK []) → Good K B H (.ref a) (.dict [])
inductive GoodAll (K : PySem.W.Frag) (B : Addr → Prop) (H : Hp) : List V → List PyData → Prop
  | nil : GoodAll K B H [] []
  | cons {v : V} {vs : List V} {d : PyData} {ds : List PyData} : Good K B H v d → GoodAll K B H vs ds → GoodAll K B H (v :: vs) (d :: ds)
end

section
variable {K : PySem.W.Frag} {B B' : Addr → Prop} {H H' : Hp}
theorem Rd.keepD {a : Addr} {u : HO} (k : ∀ o, H a = some o → H' a = some o) (r : Rd H a u) : Rd H' a u := by
  rcases r with r | ⟨o, r⟩
  · exact .inl (k _ r)
  · exact .inr ⟨o, k _ r⟩
theorem Rd.someD {a : Addr} {u : HO} (r : Rd H a u) : H a ≠ none := by
  rcases r with r | ⟨o, r⟩ <;> rw [r] <;> exact fun z => nomatch z
mutual
/-- carried to another heap, another B -/
theorem Good.mv (kb : ∀ a, B' a → B a ∨ H a = none) (kh : ∀ a o, ¬ B a → H a = some o → H' a = some o) : ∀ {d : PyData} {v : V}, Good K B H v d → Good K B' H' v d
  | .none, _, g => by cases g; exact .non
  | .bool _, _, g => by cases g; exact .bl _
  | .int _, _, g => by cases g; exact .int _
  | .str _, _, g => by cases g; exact .str _
  | .list ds, _, g => by
    cases g with
    | lst nb r ga => exact .lst (fun z => (kb _ z).elim nb (Rd.someD r)) (Rd.keepD (fun o e => kh _ o nb e) r) (GoodAll.mv kb kh ga)
    | lstK k ga => exact .lstK k (GoodAll.mv kb kh ga)
  | .tuple ds, _, g => by
    cases g with
    | tup nb r ga => exact .tup (fun z => (kb _ z).elim nb (Rd.someD r)) (Rd.keepD (fun o e => kh _ o nb e) r) (GoodAll.mv kb kh ga)
    | tupK k ga => exact .tupK k (GoodAll.mv kb kh ga)
  | .dict kvs, _, g => by
    cases g with
    | dic0 nb r => exact .dic0 (fun z => (kb _ z).elim nb (by rw [r]; exact fun z => nomatch z)) (kh _ _ nb r)
theorem GoodAll.mv (kb : ∀ a, B' a → B a ∨ H a = none) (kh : ∀ a o, ¬ B a → H a = some o → H' a = some o) : ∀ {ds : List PyData} {vs : List V}, GoodAll K B H vs ds → GoodAll K B' H' vs ds
  | [], _, g => by cases g; exact .nil
  | d :: ds, _, g => by
    cases g with
    | cons h t => exact .cons (Good.mv kb kh h) (GoodAll.mv kb kh t)
end
theorem Good.same (s : Same H H') {d : PyData} {v : V} (g : Good K B H v d) : Good K B H' v d := g.mv (fun _ z => .inl z) fun a o _ e => s a o e
theorem GoodAll.same (s : Same H H') {ds : List PyData} {vs : List V} (g : GoodAll K B H vs ds) : GoodAll K B H' vs ds := g.mv (fun _ z => .inl z) fun a o _ e => s a o e
theorem GoodAll.len : ∀ {ds : List PyData} {vs : List V}, GoodAll K B H vs ds → vs.length = ds.length
  | [], _, g => by cases g; rfl
  | _ :: ds, _, g => by
    cases g with
    | cons _ t => rw [List.length_cons, List.length_cons, t.len]
theorem GoodAll.get : ∀ {ds : List PyData} {vs : List V} {i : Nat} {d : PyData}, GoodAll K B H vs ds → ds[i]? = some d → ∃ v, vs[i]? = some v ∧ Good K B H v d
  | _ :: _, _, 0, _, .cons h _, e => by
    have e' : _ = _ := Option.some.inj e
    subst e'
    exact ⟨_, rfl, h⟩
  | _ :: _, _, i + 1, _, .cons _ t, e => t.get (i := i) e
  | [], _, _, _, .nil, e => by simp at e
theorem GoodAll.app : ∀ {ds es : List PyData} {vs us : List V}, GoodAll K B H vs ds → GoodAll K B H us es → GoodAll K B H (vs ++ us) (ds ++ es)
  | _, _, _, _, .nil, s => s
  | _, _, _, _, .cons h t, s => .cons h (t.app s)
theorem GoodAll.take : ∀ {ds : List PyData} {vs : List V} (n : Nat), GoodAll K B H vs ds → GoodAll K B H (vs.take n) (ds.take n)
  | _, _, 0, _ => .nil
  | _, _, _ + 1, .nil => .nil
  | _, _, n + 1, .cons h t => .cons h (t.take n)
theorem GoodAll.drop : ∀ {ds : List PyData} {vs : List V} (n : Nat), GoodAll K B H vs ds → GoodAll K B H (vs.drop n) (ds.drop n)
  | _, _, 0, g => g
  | _, _, _ + 1, .nil => .nil
  | _, _, n + 1, .cons _ t => t.drop n
theorem GoodAll.setA : ∀ {ds : List PyData} {vs : List V} {v : V} {d : PyData} (i : Nat), GoodAll K B H vs ds → Good K B H v d → GoodAll K B H (vs.set i v) (ds.set i d)
  | _, _, _, _, _, .nil, _ => .nil
  | _, _, _, _, 0, .cons _ t, g => .cons g t
  | _, _, _, _, i + 1, .cons h t, g => .cons h (t.setA i g)
theorem GoodAll.erase : ∀ {ds : List PyData} {vs : List V} (i : Nat), GoodAll K B H vs ds → GoodAll K B H (vs.eraseIdx i) (ds.eraseIdx i)
  | _, _, _, .nil => .nil
  | _, _, 0, .cons _ t => t
  | _, _, i + 1, .cons h t => .cons h (t.erase i)
theorem GoodAll.rep {ds : List PyData} {vs : List V} (g : GoodAll K B H vs ds) : ∀ k : Nat, GoodAll K B H (List.replicate k vs).flatten (List.replicate k ds).flatten
  | 0 => .nil
  | k + 1 => by
    rw [List.replicate_succ, List.replicate_succ, List.flatten_cons, List.flatten_cons]
    exact g.app (g.rep k)
theorem GoodAll.rev : ∀ {ds : List PyData} {vs : List V}, GoodAll K B H vs ds → GoodAll K B H vs.reverse ds.reverse
  | _, _, .nil => .nil
  | _, _, .cons h t => by
    rw [List.reverse_cons, List.reverse_cons]
    exact t.rev.app (.cons h .nil)

/-- v stands for a list (whatever its root) or is good -/
def Read (K : PySem.W.Frag) (B : Addr → Prop) (H : Hp) (v : V) (x : PyData) : Prop :=
  Good K B H v x ∨ ∃ a vs ds, v = .ref a ∧ x = .list ds ∧ SqL K H a vs ∧ GoodAll K B H vs ds
theorem Read.list {v : V} {ds : List PyData} (r : Read K B H v (.list ds)) : ∃ a vs, v = .ref a ∧ SqL K H a vs ∧ GoodAll K B H vs ds := by
  rcases r with g | ⟨a, vs, ds', rfl, e, s, g⟩
  · cases g with
    | lst nb r ga => exact ⟨_, _, rfl, .inl r, ga⟩
    | lstK k ga => exact ⟨_, _, rfl, .inr k, ga⟩
  · cases e
    exact ⟨a, vs, rfl, s, g⟩
theorem Read.tup {v : V} {ds : List PyData} (r : Read K B H v (.tuple ds)) : ∃ a vs, v = .ref a ∧ SqT K H a vs ∧ GoodAll K B H vs ds := by
  rcases r with g | ⟨a, vs, ds', rfl, e, s, g⟩
  · cases g with
    | tup nb r ga => exact ⟨_, _, rfl, .inl r, ga⟩
    | tupK k ga => exact ⟨_, _, rfl, .inr k, ga⟩
  · cases e
theorem Read.int {v : V} {i : Int} (r : Read K B H v (.int i)) : v = .int i := by
  rcases r with g | ⟨_, _, _, _, e, _⟩
  · cases g; rfl
  · cases e
theorem Read.bool {v : V} {i : Bool} (r : Read K B H v (.bool i)) : v = .bl i := by
  rcases r with g | ⟨_, _, _, _, e, _⟩
  · cases g; rfl
  · cases e
theorem Read.str {v : V} {i : Str} (r : Read K B H v (.str i)) : v = .str i := by
  rcases r with g | ⟨_, _, _, _, e, _⟩
  · cases g; rfl
  · cases e
theorem Read.non {v : V} (r : Read K B H v .none) : v = .non := by
  rcases r with g | ⟨_, _, _, _, e, _⟩
  · cases g; rfl
  · cases e
/-- data that hold no dict -/
def noDict (d : PyData) : Bool := !d.hasDict
mutual
theorem Good.toDp : ∀ {d : PyData} {v : V}, d.hasDict = false → Good K B H v d → Dp K H v d
  | .none, _, _, g => by cases g; exact .non
  | .bool _, _, _, g => by cases g; exact .bl _
  | .int _, _, _, g => by cases g; exact .int _
  | .str _, _, _, g => by cases g; exact .str _
  | .list ds, _, n, g => by
    have n' : PyData.hasDictAll ds = false := by simpa [PyData.hasDict] using n
    cases g with
    | lst nb r ga => exact .lst (.inl r) (GoodAll.toDp n' ga)
    | lstK k ga => exact .lst (.inr k) (GoodAll.toDp n' ga)
  | .tuple ds, _, n, g => by
    have n' : PyData.hasDictAll ds = false := by simpa [PyData.hasDict] using n
    cases g with
    | tup nb r ga => exact .tup (.inl r) (GoodAll.toDp n' ga)
    | tupK k ga => exact .tup (.inr k) (GoodAll.toDp n' ga)
  | .dict _, _, n, _ => by simp [PyData.hasDict] at n
theorem GoodAll.toDp : ∀ {ds : List PyData} {vs : List V}, PyData.hasDictAll ds = false → GoodAll K B H vs ds → DpAll K H vs ds
  | [], _, _, g => by cases g; exact .nil
  | d :: ds, _, n, g => by
    have n' : d.hasDict = false ∧ PyData.hasDictAll ds = false := by simpa [PyData.hasDictAll] using n
    cases g with
    | cons h t => exact .cons (Good.toDp n'.1 h) (GoodAll.toDp n'.2 t)
end
theorem Read.toDp {d : PyData} {v : V} (n : d.hasDict = false) (r : Read K B H v d) : Dp K H v d := by
  rcases r with g | ⟨a, vs, ds, rfl, rfl, s, g⟩
  · exact g.toDp n
  · exact .lst s (GoodAll.toDp (by simpa [PyData.hasDict] using n) g)
end

/-! ### slots -/
/-- the addresses of the frame's own lists -/
def OwnA (σ : L2.St) (ρ : Env) (a : Addr) : Prop := ∃ (i : Nat) (xs : List PyData), ρ[i]? = some (some (SV.own xs)) ∧ σ[i]? = some (some (V.ref a))
/-- a list that is read, at none of the addresses that are written -/
def SqR (K : PySem.W.Frag) (W : Addr → Prop) (H : Hp) (a : Addr) (xs : List V) : Prop := (¬ W a ∧ Rd H a (.lst xs)) ∨ KLst K a xs
theorem SqR.sql {K : PySem.W.Frag} {W : Addr → Prop} {H : Hp} {a : Addr} {xs : List V} (s : SqR K W H a xs) : SqL K H a xs := s.elim (fun z => .inl z.2) .inr
theorem SqR.keep {K : PySem.W.Frag} {W W' : Addr → Prop} {H H' : Hp} {a : Addr} {xs : List V} (s : SqR K W H a xs) (kw : ∀ a, W' a → W a ∨ H a = none) (kh : ∀ a o, ¬ W a → H a = some o → H' a = some o) : SqR K W' H' a xs := by
  rcases s with ⟨n, r⟩ | s
  · exact .inl ⟨fun z => (kw a z).elim n (Rd.someD r), Rd.keepD (fun o e => kh a o n e) r⟩
  · exact .inr s
structure Rel (K : PySem.W.Frag) (B : Addr → Prop) (σ : L2.St) (H : Hp) (ρ : Env) : Prop where
  dat : ∀ (i : Nat) x, ρ[i]? = some (some (SV.d x)) → ∃ v, σ[i]? = some (some v) ∧ Good K B H v x
  own : ∀ (i : Nat) xs, ρ[i]? = some (some (SV.own xs)) → ∃ a vs, σ[i]? = some (some (.ref a)) ∧ B a ∧ H a = some (.lst vs) ∧ GoodAll K B H vs xs
  ro : ∀ (i : Nat) xs, ρ[i]? = some (some (SV.ro xs)) → ∃ a vs, σ[i]? = some (some (.ref a)) ∧ SqR K (OwnA σ ρ) H a vs ∧ GoodAll K B H vs xs
  dis : ∀ (i j : Nat) xs ys a, ρ[i]? = some (some (SV.own xs)) → ρ[j]? = some (some (SV.own ys)) → σ[i]? = some (some (.ref a)) → σ[j]? = some (some (.ref a)) → i = j
  tr : ∀ a, B a → ∃ vs, H a = some (.lst vs)
  len : ρ.length = σ.length
/-- an expression changes nothing of the slots but what its own lists hold -/
def Slots (ρ ρ' : Env) : Prop := ∀ i : Nat, ρ'[i]? = ρ[i]? ∨ ∃ xs ys, ρ[i]? = some (some (SV.own xs)) ∧ ρ'[i]? = some (some (SV.own ys))
theorem Slots.refl (ρ : Env) : Slots ρ ρ := fun _ => .inl rfl
theorem Slots.trans {ρ ρ' ρ'' : Env} (x : Slots ρ ρ') (y : Slots ρ' ρ'') : Slots ρ ρ'' := fun i => by
  rcases x i with e | ⟨xs, ys, e1, e2⟩
  · rcases y i with q | ⟨us, ws, q1, q2⟩
    · exact .inl (q.trans e)
    · exact .inr ⟨us, ws, e ▸ q1, q2⟩
  · rcases y i with q | ⟨us, ws, q1, q2⟩
    · exact .inr ⟨xs, ys, e1, q.trans e2⟩
    · exact .inr ⟨xs, ws, e1, q2⟩
theorem Slots.own {ρ ρ' : Env} (x : Slots ρ ρ') (i : Nat) : (∃ xs, ρ'[i]? = some (some (SV.own xs))) ↔ ∃ xs, ρ[i]? = some (some (SV.own xs)) := by
  rcases x i with e | ⟨xs, ys, e1, e2⟩
  · rw [e]
  · exact ⟨fun _ => ⟨xs, e1⟩, fun _ => ⟨ys, e2⟩⟩
theorem Slots.ro {ρ ρ' : Env} (x : Slots ρ ρ') {i : Nat} {xs : List PyData} : ρ'[i]? = some (some (SV.ro xs)) ↔ ρ[i]? = some (some (SV.ro xs)) := by
  rcases x i with e | ⟨us, ys, e1, e2⟩
  · rw [e]
  · rw [e1, e2]
    exact ⟨fun z => (nomatch z), fun z => (nomatch z)⟩
theorem Slots.d {ρ ρ' : Env} (x : Slots ρ ρ') {i : Nat} {y : PyData} : ρ'[i]? = some (some (SV.d y)) ↔ ρ[i]? = some (some (SV.d y)) := by
  rcases x i with e | ⟨us, ys, e1, e2⟩
  · rw [e]
  · rw [e1, e2]
    exact ⟨fun z => (nomatch z), fun z => (nomatch z)⟩
theorem Slots.len {ρ ρ' : Env} (x : Slots ρ ρ') : ρ'.length = ρ.length := by
  have h : ∀ i : Nat, ρ'[i]? = none ↔ ρ[i]? = none := fun i => by
    rcases x i with e | ⟨us, ys, e1, e2⟩
    · rw [e]
    · rw [e1, e2]
      exact ⟨fun z => (nomatch z), fun z => (nomatch z)⟩
  have h1 := (h ρ.length).mpr (List.getElem?_eq_none_iff.mpr (Nat.le_refl _))
  have h2 := (h ρ'.length).mp (List.getElem?_eq_none_iff.mpr (Nat.le_refl _))
  rw [List.getElem?_eq_none_iff] at h1 h2
  omega
theorem Slots.ownA {ρ ρ' : Env} (x : Slots ρ ρ') {σ : L2.St} (a : Addr) : OwnA σ ρ' a ↔ OwnA σ ρ a := by
  constructor
  · rintro ⟨i, xs, e1, e2⟩
    obtain ⟨ys, q⟩ := (x.own i).mp ⟨xs, e1⟩
    exact ⟨i, ys, q, e2⟩
  · rintro ⟨i, xs, e1, e2⟩
    obtain ⟨ys, q⟩ := (x.own i).mpr ⟨xs, e1⟩
    exact ⟨i, ys, q, e2⟩
/-- behind an expression -/
structure Ext (K : PySem.W.Frag) (B : Addr → Prop) (σ : L2.St) (H : Hp) (ρ : Env) (B' : Addr → Prop) (H' : Hp) (ρ' : Env) : Prop where
  up : ∀ a, B a → B' a
  new : ∀ a, B' a → B a ∨ H a = none
  rel : Rel K B' σ H' ρ'
  sl : Slots ρ ρ'
  keep : ∀ a o, ¬ OwnA σ ρ a → H a = some o → H' a = some o
section
variable {K : PySem.W.Frag} {B B' B'' : Addr → Prop} {σ : L2.St} {H H' H'' : Hp} {ρ ρ' ρ'' : Env}
theorem Rel.ownB (r : Rel K B σ H ρ) {a : Addr} (o : OwnA σ ρ a) : B a := by
  obtain ⟨i, xs, e1, e2⟩ := o
  obtain ⟨a', vs, e3, hb, _⟩ := r.own i xs e1
  rw [e2] at e3
  cases e3
  exact hb
theorem Rel.nown (r : Rel K B σ H ρ) {a : Addr} (n : H a = none) : ¬ OwnA σ ρ a := fun o => by
  obtain ⟨vs, e⟩ := r.tr a (r.ownB o)
  rw [n] at e
  cases e
theorem Ext.refl (r : Rel K B σ H ρ) : Ext K B σ H ρ B H ρ := ⟨fun _ h => h, fun _ h => .inl h, r, .refl ρ, fun _ _ _ h => h⟩
theorem Ext.none_of (x : Ext K B σ H ρ B' H' ρ') (r : Rel K B σ H ρ) {a : Addr} (h : H' a = none) : H a = none := by
  cases e : H a with
  | none => rfl
  | some o =>
    by_cases q : OwnA σ ρ a
    · exact absurd ((x.sl.ownA a).mpr q) (x.rel.nown h)
    · rw [x.keep a o q e] at h
      cases h
theorem Ext.trans (r : Rel K B σ H ρ) (x : Ext K B σ H ρ B' H' ρ') (y : Ext K B' σ H' ρ' B'' H'' ρ'') : Ext K B σ H ρ B'' H'' ρ'' where
  up := fun a h => y.up a (x.up a h)
  new := fun a h => (y.new a h).elim (fun z => x.new a z) fun z => .inr (x.none_of r z)
  rel := y.rel
  sl := x.sl.trans y.sl
  keep := fun a o n e => y.keep a o (fun z => n ((x.sl.ownA a).mp z)) (x.keep a o n e)
theorem Ext.good (x : Ext K B σ H ρ B' H' ρ') (r : Rel K B σ H ρ) {v : V} {d : PyData} (g : Good K B H v d) : Good K B' H' v d :=
  g.mv x.new fun a o nb e => x.keep a o (fun z => nb (r.ownB z)) e
theorem Ext.goodAll (x : Ext K B σ H ρ B' H' ρ') (r : Rel K B σ H ρ) {v : List V} {d : List PyData} (g : GoodAll K B H v d) : GoodAll K B' H' v d :=
  g.mv x.new fun a o nb e => x.keep a o (fun z => nb (r.ownB z)) e
theorem SqL.keepD {a : Addr} {xs : List V} (k : ∀ o, H a = some o → H' a = some o) (s : SqL K H a xs) : SqL K H' a xs := by
  rcases s with s | s
  · exact .inl (Rd.keepD k s)
  · exact .inr s
/-- the heap grew; B took new ones of it -/
theorem Rel.mv (r : Rel K B σ H ρ) (s : Same H H') (kb : ∀ a, B' a → B a ∨ H a = none) (up : ∀ a, B a → B' a) (tr : ∀ a, B' a → ∃ vs, H' a = some (.lst vs)) : Rel K B' σ H' ρ where
  dat := fun i x e => by
    obtain ⟨v, e1, g⟩ := r.dat i x e
    exact ⟨v, e1, g.mv kb fun a o _ z => s a o z⟩
  own := fun i xs e => by
    obtain ⟨a, vs, e1, b, h, g⟩ := r.own i xs e
    exact ⟨a, vs, e1, up a b, s _ _ h, g.mv kb fun a o _ z => s a o z⟩
  ro := fun i xs e => by
    obtain ⟨a, vs, e1, q, g⟩ := r.ro i xs e
    exact ⟨a, vs, e1, q.keep (fun _ z => .inl z) fun a o _ z => s a o z, g.mv kb fun a o _ z => s a o z⟩
  dis := r.dis
  tr := tr
  len := r.len
theorem Rel.same (r : Rel K B σ H ρ) (s : Same H H') : Rel K B σ H' ρ := r.mv s (fun _ h => .inl h) (fun _ h => h) fun a h => by
  obtain ⟨vs, e⟩ := r.tr a h
  exact ⟨vs, s _ _ e⟩
theorem Ext.ofSame (r : Rel K B σ H ρ) (s : Same H H') : Ext K B σ H ρ B H' ρ :=
  ⟨fun _ h => h, fun _ h => .inl h, r.same s, .refl ρ, fun a o _ e => s a o e⟩
theorem Ext.ofNew (r : Rel K B σ H ρ) (s : Same H H') {a : Addr} {vs : List V} (n : H a = none) (e : H' a = some (.lst vs)) : Ext K B σ H ρ (fun b => B b ∨ b = a) H' ρ := by
  refine ⟨fun _ h => .inl h, fun b h => h.elim .inl fun z => .inr (by rw [z]; exact n), r.mv s (fun b h => h.elim .inl fun z => .inr (by rw [z]; exact n)) (fun _ h => .inl h) fun b h => ?_, .refl ρ, fun a o _ e => s a o e⟩
  rcases h with h | rfl
  · obtain ⟨us, q⟩ := r.tr b h
    exact ⟨us, s _ _ q⟩
  · exact ⟨vs, e⟩
end

/-- what a value is, behind an expression that began at H -/
def RV (K : PySem.W.Frag) (B' : Addr → Prop) (σ : L2.St) (H H' : Hp) (ρ' : Env) : Val → V → Prop
  | .d x, v => Good K B' H' v x
  | .n x, v => ∃ a vs ds, x = .list ds ∧ v = .ref a ∧ H a = none ∧ B' a ∧ ¬ OwnA σ ρ' a ∧ H' a = some (.lst vs) ∧ GoodAll K B' H' vs ds
  | .b i, v => ∃ a, σ[i]? = some (some (.ref a)) ∧ v = .ref a ∧ ((∃ xs, ρ'[i]? = some (some (SV.own xs))) ∨ ∃ xs, ρ'[i]? = some (some (SV.ro xs)))
section
variable {K : PySem.W.Frag} {B B' B'' : Addr → Prop} {σ : L2.St} {H H0 H' H'' : Hp} {ρ ρ' ρ'' : Env} {r : Val} {v : V}
theorem RV.read (h : RV K B' σ H H' ρ' r v) (R : Rel K B' σ H' ρ') {x : PyData} (e : dat ρ' r = some x) : Read K B' H' v x := by
  cases r with
  | d y =>
    have e' : y = x := Option.some.inj e
    subst e'
    exact .inl h
  | n y =>
    have e' : y = x := Option.some.inj e
    subst e'
    obtain ⟨a, vs, ds, rfl, rfl, _, _, _, q, g⟩ := h
    exact .inr ⟨a, vs, ds, rfl, rfl, .of q, g⟩
  | b i =>
    obtain ⟨a, e1, rfl, h⟩ := h
    rcases h with ⟨xs, q⟩ | ⟨xs, q⟩
    · have e : slotD ρ'[i]? = some x := e
      rw [q] at e
      have e' : PyData.list xs = x := Option.some.inj e
      subst e'
      obtain ⟨a', vs, e2, _, h2, g⟩ := R.own i xs q
      rw [e1] at e2
      cases e2
      exact .inr ⟨a, vs, xs, rfl, rfl, .of h2, g⟩
    · have e : slotD ρ'[i]? = some x := e
      rw [q] at e
      have e' : PyData.list xs = x := Option.some.inj e
      subst e'
      obtain ⟨a', vs, e2, h2, g⟩ := R.ro i xs q
      rw [e1] at e2
      cases e2
      exact .inr ⟨a, vs, xs, rfl, rfl, h2.sql, g⟩
end
end DL

/-! DL2: the senses of expressions, and when they are the program's. -/
namespace DL
open PySem PySem.Spec PyProof.Rows L2

abbrev CE := Env → Option (Val × Env)
abbrev CT := Env → Option (Bool × Env)
abbrev CA := Env → Option (List Val × Env)
/-- v is none of the new lists among these -/
def Apart (v : V) : List Val → List V → Prop
  | .n _ :: rs, u :: us => v ≠ u ∧ Apart v rs us
  | .d _ :: rs, _ :: us => Apart v rs us
  | .b _ :: rs, _ :: us => Apart v rs us
  | _, _ => True
/-- several values behind one another: the new lists among them stand apart -/
inductive RVs (K : PySem.W.Frag) (B' : Addr → Prop) (σ : L2.St) (H H' : Hp) (ρ' : Env) : List Val → List V → Prop
  | nil : RVs K B' σ H H' ρ' [] []
  | cons {r : Val} {v : V} {rs : List Val} {vs : List V} : RV K B' σ H H' ρ' r v → (∀ x, r = .n x → Apart v rs vs) → RVs K B' σ H H' ρ' rs vs → RVs K B' σ H H' ρ' (r :: rs) (v :: vs)

def tE (K : PySem.W.Frag) (c : CE) : TE := fun σ H Q => ∃ B ρ r ρ', Rel K B σ H ρ ∧ c ρ = some (r, ρ') ∧ ∀ v B' H', Ext K B σ H ρ B' H' ρ' → RV K B' σ H H' ρ' r v → Q v H'
def tT (K : PySem.W.Frag) (c : CT) : TT := fun σ H Q => ∃ B ρ r ρ', Rel K B σ H ρ ∧ c ρ = some (r, ρ') ∧ ∀ B' H', Ext K B σ H ρ B' H' ρ' → Q r H'
/-- the arguments, each a value of its own -/
def tAs (K : PySem.W.Frag) (c : CA) : TA := fun σ H Q => ∃ B ρ rs ρ', Rel K B σ H ρ ∧ c ρ = some (rs, ρ') ∧ ∀ vs B' H', Ext K B σ H ρ B' H' ρ' → RVs K B' σ H H' ρ' rs vs → Q vs H'
structure DE (X : Cx) (e : Expr) (c : CE) : Prop where
  pe : PE X e (tE X.K c)
structure DT (X : Cx) (e : Expr) (c : CT) : Prop where
  pt : PT X e (tT X.K c)
structure DAs (X : Cx) (es : List Expr) (c : CA) : Prop where
  pa : PA X es (tAs X.K c)

theorem PE.weak {X : Cx} {e : Expr} {t t' : TE} (h : PE X e t) (k : ∀ σ H Q, t' σ H Q → t σ H Q) : PE X e t' := ⟨fun pins s σ H Q I w => h.run pins s σ H Q I (k σ H Q w)⟩
theorem PT.weak {X : Cx} {e : Expr} {t t' : TT} (h : PT X e t) (k : ∀ σ H Q, t' σ H Q → t σ H Q) : PT X e t' := ⟨fun pins s σ H Q I w => h.run pins s σ H Q I (k σ H Q w)⟩
theorem PW.weak {X : Cx} {e : Expr} {t t' : TT} (h : PW X e t) (k : ∀ σ H Q, t' σ H Q → t σ H Q) : PW X e t' := ⟨fun wh pins s σ H Q I w => h.run wh pins s σ H Q I (k σ H Q w)⟩
theorem PA.weak {X : Cx} {e : List Expr} {t t' : TA} (h : PA X e t) (k : ∀ σ H Q, t' σ H Q → t σ H Q) : PA X e t' := ⟨fun pos pins s σ H Q I w => h.run pos pins s σ H Q I (k σ H Q w)⟩

section
variable {K : PySem.W.Frag} {B B' B'' : Addr → Prop} {σ : L2.St} {H H0 H' H'' : Hp} {ρ ρ' ρ'' : Env} {r : Val} {v : V} {rs : List Val} {vs : List V}
/-- a value is kept by what comes behind it -/
theorem RV.keep (h : RV K B' σ H H' ρ' r v) (R : Rel K B' σ H' ρ') (x : Ext K B' σ H' ρ' B'' H'' ρ'') : RV K B'' σ H H'' ρ'' r v := by
  cases r with
  | d y => exact x.good R h
  | n y =>
    obtain ⟨a, vs, ds, rfl, rfl, n, b, no, q, g⟩ := h
    exact ⟨a, vs, ds, rfl, rfl, n, x.up a b, fun z => no ((x.sl.ownA a).mp z), x.keep a _ no q, x.goodAll R g⟩
  | b i =>
    obtain ⟨a, e1, rfl, h⟩ := h
    refine ⟨a, e1, rfl, ?_⟩
    rcases h with h | ⟨xs, h⟩
    · exact .inl ((x.sl.own i).mpr h)
    · exact .inr ⟨xs, x.sl.ro.mpr h⟩
/-- .. told from an earlier beginning -/
theorem RV.early (h : RV K B' σ H0 H' ρ' r v) (k : H0 = H0 → ∀ a, H0 a = none → H a = none) : RV K B' σ H H' ρ' r v := by
  cases r with
  | d y => exact h
  | n y =>
    obtain ⟨a, vs, ds, rfl, rfl, n, q⟩ := h
    exact ⟨a, vs, ds, rfl, rfl, k rfl a n, q⟩
  | b i => exact h

/-! ### names, constants -/
def cVar (i : Nat) : CE := fun ρ => match ρ[i]? with
  | some (some (.d x)) => some (.d x, ρ)
  | some (some (.own _)) => some (.b i, ρ)
  | some (some (.ro _)) => some (.b i, ρ)
  | _ => none
def cCst (x : PyData) : CE := fun ρ => some (.d x, ρ)
variable {X : Cx}
theorem de_var {i : Nat} {x : Str} {pos : Pos} (hN : X.N[i]? = some x) (hv : Vis X.env.scope x) (hd : (x == ("__debug__" : Str)) = false) (hcd : (x == ("__classdict__" : Str)) = false) : DE X (.Name x pos) (cVar i) := by
  refine ⟨PE.weak (pe_var hN hv hd hcd) fun σ H Q h => ?_⟩
  obtain ⟨B, ρ, r, ρ', R, e, k⟩ := h
  unfold cVar at e
  split at e
  · rename_i x e1
    cases e
    obtain ⟨v, e2, g⟩ := R.dat i x e1
    exact ⟨v, e2, k v B H (.refl R) g⟩
  · rename_i xs e1
    cases e
    obtain ⟨a, vs, e2, _⟩ := R.own i xs e1
    exact ⟨_, e2, k _ B H (.refl R) ⟨a, e2, rfl, .inl ⟨xs, e1⟩⟩⟩
  · rename_i xs e1
    cases e
    obtain ⟨a, vs, e2, _⟩ := R.ro i xs e1
    exact ⟨_, e2, k _ B H (.refl R) ⟨a, e2, rfl, .inr ⟨xs, e1⟩⟩⟩
  · cases e
theorem de_tC {e : Expr} {v : V} {x : PyData} (h : PE X e (tC v)) (g : ∀ B H, Good X.K B H v x) : DE X e (cCst x) := by
  refine ⟨PE.weak h fun σ H Q h => ?_⟩
  obtain ⟨B, ρ, r, ρ', R, e, k⟩ := h
  cases e
  exact k v B H (.refl R) (g B H)
theorem de_int {i : Int} {j : Nat} {pos : Pos} : DE X (.Constant (.int i) j pos) (cCst (.int i)) := de_tC pe_int fun _ _ => .int i
theorem de_bool {i : Bool} {j : Nat} {pos : Pos} : DE X (.Constant (.bool i) j pos) (cCst (.bool i)) := de_tC pe_bl fun _ _ => .bl i
theorem de_none {j : Nat} {pos : Pos} : DE X (.Constant .none j pos) (cCst .none) := de_tC pe_non fun _ _ => .non
theorem de_str {x : Str} {j : Nat} {pos : Pos} : DE X (.Constant (.str x) j pos) (cCst (.str x)) := de_tC pe_str fun _ _ => .str x
theorem de_glob {x : Str} {v : V} {u : Value} {y : PyData} {pos : Pos} (hg : Gl X x) (hm : X.mg x = some u) (r : RelV v u) (g : ∀ B H, Good X.K B H v y) (hd : (x == ("__debug__" : Str)) = false) : DE X (.Name x pos) (cCst y) :=
  de_tC (pe_glob hg hm r hd) g

/-! ### what an operation gives -/
def OutV (K : PySem.W.Frag) (B : Addr → Prop) (H H' : Hp) : Val → V → Prop
  | .d x, v => Good K B H' v x
  | .n x, v => ∃ a vs ds, x = .list ds ∧ v = .ref a ∧ H a = none ∧ H' a = some (.lst vs) ∧ GoodAll K (fun b => B b ∨ b = a) H' vs ds
  | .b _, _ => False
/-- the operation's end: nothing that stood is changed -/
def Outc (K : PySem.W.Frag) (B : Addr → Prop) (H : Hp) (r : Val) (Q : VK) : Prop := ∀ v H', Same H H' → OutV K B H H' r v → Q v H'
/-- from the operation's end to the expression's -/
theorem Outc.of {Q : VK} (R : Rel K B σ H ρ) (x : Ext K B σ H ρ B' H' ρ') (k : ∀ v B'' H'', Ext K B σ H ρ B'' H'' ρ' → RV K B'' σ H H'' ρ' r v → Q v H'') : Outc K B' H' r Q := by
  intro v H'' s o
  cases r with
  | d y => exact k v B' H'' (x.trans R (.ofSame x.rel s)) o
  | n y =>
    obtain ⟨a, vs, ds, rfl, rfl, n, e, g⟩ := o
    refine k _ (fun b => B' b ∨ b = a) H'' (x.trans R (.ofNew x.rel s n e)) ⟨a, vs, ds, rfl, rfl, x.none_of R n, .inr rfl, x.rel.nown n, e, g⟩
  | b i => exact o.elim

/-- a new list of items that stood -/
theorem OutV.lst {a : Addr} {vs : List V} {ds : List PyData} (n : H a = none) (g : GoodAll K B H vs ds) : OutV K B H (upd H a (.lst vs)) (.n (.list ds)) (.ref a) :=
  ⟨a, vs, ds, rfl, rfl, n, upd_same, g.mv (fun b h => h.elim .inl fun z => .inr (by rw [z]; exact n)) fun b o _ e => by rw [upd_ne (ne_of_none e n)]; exact e⟩
theorem same_updD {p : Addr} {o : HO} (h : H p = none) : Same H (upd H p o) := fun b x e => by
  rw [upd_ne (ne_of_none e h)]
  exact e
theorem OutV.tup {a : Addr} {vs : List V} {ds : List PyData} (tr : ∀ b, B b → H b ≠ none) (n : H a = none) (g : GoodAll K B H vs ds) : OutV K B H (upd H a (.tup vs)) (.d (.tuple ds)) (.ref a) :=
  Good.tup (fun z => tr _ z n) (Or.inl upd_same) (g.same (same_updD n))
theorem Rel.tr0 (R : Rel K B σ H ρ) : ∀ b, B b → H b ≠ none := fun b h => by
  obtain ⟨vs, e⟩ := R.tr b h
  rw [e]
  exact fun z => nomatch z

/-! ### operators -/
def cOp2 (g : PyData → PyData → Option Val) (ca cb : CE) : CE := fun ρ => do
  let (ra, ρ1) ← ca ρ
  let (rb, ρ2) ← cb ρ1
  let x ← dat ρ2 ra
  let y ← dat ρ2 rb
  let out ← g x y
  pure (out, ρ2)
def cOp1 (g : PyData → Option Val) (ca : CE) : CE := fun ρ => do
  let (ra, ρ1) ← ca ρ
  let x ← dat ρ1 ra
  let out ← g x
  pure (out, ρ1)
/-- the operation on data is the program's -/
def Sound2 (K : PySem.W.Frag) (g : PyData → PyData → Option Val) (r : R2) : Prop :=
  ∀ (B : Addr → Prop) (H : Hp) (v u : V) (x y : PyData) (out : Val) (Q : VK), (∀ b, B b → H b ≠ none) → Read K B H v x → Read K B H u y → g x y = some out → Outc K B H out Q → r v u H Q
def Sound1 (K : PySem.W.Frag) (g : PyData → Option Val) (r : V → Hp → VK → Prop) : Prop :=
  ∀ (B : Addr → Prop) (H : Hp) (v : V) (x : PyData) (out : Val) (Q : VK), (∀ b, B b → H b ≠ none) → Read K B H v x → g x = some out → Outc K B H out Q → r v H Q
theorem cOp2_some {g : PyData → PyData → Option Val} {ca cb : CE} {z : Val × Env} (h : cOp2 g ca cb ρ = some z) : ∃ ra ρ1 rb ρ2 x y, ca ρ = some (ra, ρ1) ∧ cb ρ1 = some (rb, ρ2) ∧ dat ρ2 ra = some x ∧ dat ρ2 rb = some y ∧ g x y = some z.1 ∧ z.2 = ρ2 := by
  unfold cOp2 at h
  simp only [Option.bind_eq_bind, Option.bind_eq_some_iff, Option.pure_def, Option.some.injEq] at h
  obtain ⟨⟨ra, ρ1⟩, h1, ⟨rb, ρ2⟩, h2, x, h3, y, h4, out, h5, rfl⟩ := h
  exact ⟨ra, ρ1, rb, ρ2, x, y, h1, h2, h3, h4, h5, rfl⟩
theorem cOp1_some {g : PyData → Option Val} {ca : CE} {z : Val × Env} (h : cOp1 g ca ρ = some z) : ∃ ra ρ1 x, ca ρ = some (ra, ρ1) ∧ dat ρ1 ra = some x ∧ g x = some z.1 ∧ z.2 = ρ1 := by
  unfold cOp1 at h
  simp only [Option.bind_eq_bind, Option.bind_eq_some_iff, Option.pure_def, Option.some.injEq] at h
  obtain ⟨⟨ra, ρ1⟩, h1, x, h3, out, h5, rfl⟩ := h
  exact ⟨ra, ρ1, x, h1, h3, h5, rfl⟩
/-- two readings behind one another, and an operation upon what they give -/
theorem two_read {g : PyData → PyData → Option Val} {r : R2} {ca cb : CE} (s : Sound2 K g r) : ∀ (σ : L2.St) (H : Hp) (Q : VK), tE K (cOp2 g ca cb) σ H Q → tOp r (tE K ca) (tE K cb) σ H Q := by
  intro σ H Q h
  obtain ⟨B, ρ, z, ρ', R, e, k⟩ := h
  obtain ⟨ra, ρ1, rb, ρ2, x, y, h1, h2, h3, h4, h5, h6⟩ := cOp2_some e
  have h6' : ρ' = ρ2 := h6
  subst h6'
  refine ⟨B, ρ, ra, ρ1, R, h1, fun v B1 H1 x1 v1 => ⟨B1, ρ1, rb, ρ', x1.rel, h2, fun u B2 H2 x2 v2 => ?_⟩⟩
  exact s B2 H2 v u x y z Q x2.rel.tr0 ((v1.keep x1.rel x2).read x2.rel h3) (v2.read x2.rel h4) h5 (Outc.of R (x1.trans R x2) k)
theorem one_read {g : PyData → Option Val} {r : V → Hp → VK → Prop} {ca : CE} (s : Sound1 K g r) : ∀ (σ : L2.St) (H : Hp) (Q : VK), tE K (cOp1 g ca) σ H Q → tUn r (tE K ca) σ H Q := by
  intro σ H Q h
  obtain ⟨B, ρ, z, ρ', R, e, k⟩ := h
  obtain ⟨ra, ρ1, x, h1, h3, h5, h6⟩ := cOp1_some e
  have h6' : ρ' = ρ1 := h6
  subst h6'
  refine ⟨B, ρ, ra, ρ', R, h1, fun v B1 H1 x1 v1 => ?_⟩
  exact s B1 H1 v x z Q x1.rel.tr0 (v1.read x1.rel h3) h5 (Outc.of R x1 k)
theorem de_bin {op : Operator} {r : R2} {g : PyData → PyData → Option Val} {a b : Expr} {ca cb : CE} {pos : Pos} (ho : OpR X (binaryOp op) r) (s : Sound2 X.K g r) (ha : DE X a ca) (hb : DE X b cb) : DE X (.BinOp a op b pos) (cOp2 g ca cb) :=
  ⟨PE.weak (pe_op ho ha.pe hb.pe) (two_read s)⟩
theorem de_cmp {op : CmpOp} {r : R2} {g : PyData → PyData → Option Val} {a b : Expr} {ca cb : CE} {pos : Pos} (ho : OpR X (compareOp op) r) (s : Sound2 X.K g r) (hm : behindInMarks op b = false) (ha : DE X a ca) (hb : DE X b cb) : DE X (.Compare a [op] [b] pos) (cOp2 g ca cb) :=
  ⟨PE.weak (pe_cmpR ho ha.pe hb.pe hm) (two_read s)⟩
theorem de_un {op : UnaryOp} {r : V → Hp → VK → Prop} {g : PyData → Option Val} {a : Expr} {ca : CE} {pos : Pos} (ho : UnR X (unaryOp op) r) (s : Sound1 X.K g r) (ha : DE X a ca) : DE X (.UnaryOp op a pos) (cOp1 g ca) :=
  ⟨PE.weak (pe_un ho ha.pe) (one_read s)⟩
/-- a test by its value's being True or False -/
def cTst (c : CE) : CT := fun ρ => match c ρ with
  | some (.d (.bool b), ρ') => some (b, ρ')
  | _ => none
theorem cTst_some {c : CE} {z : Bool × Env} (h : cTst c ρ = some z) : c ρ = some (.d (.bool z.1), z.2) := by
  unfold cTst at h
  split at h
  · rename_i e
    cases h
    exact e
  · cases h
theorem tst_read {c : CE} {t : TE} (k : ∀ σ H Q, tE K c σ H Q → t σ H Q) : ∀ (σ : L2.St) (H : Hp) (Q : Bool → Hp → Prop), tT K (cTst c) σ H Q → tTest t σ H Q := by
  intro σ H Q h
  obtain ⟨B, ρ, z, ρ', R, e, q⟩ := h
  refine k σ H _ ⟨B, ρ, _, ρ', R, cTst_some e, fun v B' H' x rv => ?_⟩
  have rv' : Good K B' H' v (.bool z) := rv
  cases rv'
  exact ⟨z, rfl, q B' H' x⟩
theorem dt_cmp {op : CmpOp} {r : R2} {g : PyData → PyData → Option Val} {a b : Expr} {ca cb : CE} {pos : Pos} (ho : OpR X (compareOp op) r) (s : Sound2 X.K g r) (hm : behindInMarks op b = false) (ha : DE X a ca) (hb : DE X b cb) : DT X (.Compare a [op] [b] pos) (cTst (cOp2 g ca cb)) :=
  ⟨PT.weak (pt_cmpR ho ha.pe hb.pe hm) (tst_read (two_read s))⟩
theorem dt_val {e : Expr} {c : CE} (h : DE X e c) (he : ∀ whole, isTrue e X.env whole = (do let v ← whole; standAt e.pos; holding [v] (truthy v))) : DT X e (cTst c) :=
  ⟨PT.weak (pt_val h.pe he) (tst_read fun _ _ _ w => w)⟩
end
end DL

/-! DL3: and, or, not, if; displays; arguments; built-ins; subscripts. -/
namespace DL
open PySem PySem.Spec PyProof.Rows L2
section
variable {K : PySem.W.Frag} {B B' B'' : Addr → Prop} {σ : L2.St} {H H0 H' H'' : Hp} {ρ ρ' ρ'' : Env} {r : Val} {v : V} {rs : List Val} {vs : List V} {X : Cx}

/-! ### and, or, not -/
def cAnd (ca cb : CE) : CE := fun ρ => match ca ρ with
  | some (.d (.bool true), ρ1) => cb ρ1
  | some (.d (.bool false), ρ1) => some (.d (.bool false), ρ1)
  | _ => none
def cOr (ca cb : CE) : CE := fun ρ => match ca ρ with
  | some (.d (.bool false), ρ1) => cb ρ1
  | some (.d (.bool true), ρ1) => some (.d (.bool true), ρ1)
  | _ => none
def cNot (ca : CE) : CE := fun ρ => match ca ρ with
  | some (.d (.bool b), ρ1) => some (.d (.bool (!b)), ρ1)
  | _ => none
def cIf (cc : CT) (ca cb : CE) : CE := fun ρ => match cc ρ with
  | some (true, ρ1) => ca ρ1
  | some (false, ρ1) => cb ρ1
  | none => none
def tAndT (ca cb : CT) : CT := fun ρ => match ca ρ with
  | some (true, ρ1) => cb ρ1
  | some (false, ρ1) => some (false, ρ1)
  | none => none
def tOrT (ca cb : CT) : CT := fun ρ => match ca ρ with
  | some (false, ρ1) => cb ρ1
  | some (true, ρ1) => some (true, ρ1)
  | none => none
def tNotT (ca : CT) : CT := fun ρ => match ca ρ with
  | some (b, ρ1) => some (!b, ρ1)
  | none => none
/-- go on from where a part has ended -/
theorem tE_from {c : CE} {Q : VK} (R : Rel K B σ H ρ) (x : Ext K B σ H ρ B' H' ρ') (e : c ρ' = some (r, ρ'')) (k : ∀ v B'' H'', Ext K B σ H ρ B'' H'' ρ'' → RV K B'' σ H H'' ρ'' r v → Q v H'') : tE K c σ H' Q :=
  ⟨B', ρ', r, ρ'', x.rel, e, fun v B2 H2 x2 v2 => k v B2 H2 (x.trans R x2) (v2.early fun _ a n => x.none_of R n)⟩
theorem tT_from {c : CT} {b : Bool} {Q : Bool → Hp → Prop} (R : Rel K B σ H ρ) (x : Ext K B σ H ρ B' H' ρ') (e : c ρ' = some (b, ρ'')) (k : ∀ B'' H'', Ext K B σ H ρ B'' H'' ρ'' → Q b H'') : tT K c σ H' Q :=
  ⟨B', ρ', b, ρ'', x.rel, e, fun B2 H2 x2 => k B2 H2 (x.trans R x2)⟩
theorem good_bl {b : Bool} (g : Good K B H v (.bool b)) : v = .bl b := by cases g; rfl
variable {a b c : Expr} {rest : List Expr} {ca cb : CE} {pos : Pos} {ta tb tc : CT}
theorem de_one {op} (h : DE X a ca) : DE X (.BoolOp op [a] pos) ca := ⟨pe_one h.pe⟩
theorem de_and (ha : DE X a ca) (hb : DE X (.BoolOp .And (b :: rest) pos) cb) : DE X (.BoolOp .And (a :: b :: rest) pos) (cAnd ca cb) := by
  refine ⟨PE.weak (pe_and ha.pe hb.pe) fun σ H Q h => ?_⟩
  obtain ⟨B, ρ, r, ρ', R, e, k⟩ := h
  unfold cAnd at e
  split at e
  · rename_i ρ1 e1
    refine ⟨B, ρ, _, ρ1, R, e1, fun v B1 H1 x1 v1 => ⟨true, good_bl v1, ?_⟩⟩
    exact iteT (tE_from R x1 e k)
  · rename_i ρ1 e1
    cases e
    refine ⟨B, ρ, _, ρ', R, e1, fun v B1 H1 x1 v1 => ⟨false, good_bl v1, ?_⟩⟩
    exact iteF (k _ B1 H1 x1 (Good.bl false))
  · cases e
theorem de_or (ha : DE X a ca) (hb : DE X (.BoolOp .Or (b :: rest) pos) cb) : DE X (.BoolOp .Or (a :: b :: rest) pos) (cOr ca cb) := by
  refine ⟨PE.weak (pe_or ha.pe hb.pe) fun σ H Q h => ?_⟩
  obtain ⟨B, ρ, r, ρ', R, e, k⟩ := h
  unfold cOr at e
  split at e
  · rename_i ρ1 e1
    refine ⟨B, ρ, _, ρ1, R, e1, fun v B1 H1 x1 v1 => ⟨false, good_bl v1, ?_⟩⟩
    exact iteF (tE_from R x1 e k)
  · rename_i ρ1 e1
    cases e
    refine ⟨B, ρ, _, ρ', R, e1, fun v B1 H1 x1 v1 => ⟨true, good_bl v1, ?_⟩⟩
    exact iteT (k _ B1 H1 x1 (Good.bl true))
  · cases e
theorem de_not (ha : DE X a ca) : DE X (.UnaryOp .Not a pos) (cNot ca) := by
  refine ⟨PE.weak (pe_not ha.pe) fun σ H Q h => ?_⟩
  obtain ⟨B, ρ, r, ρ', R, e, k⟩ := h
  unfold cNot at e
  split at e
  · rename_i b ρ1 e1
    cases e
    exact ⟨B, ρ, _, ρ', R, e1, fun v B1 H1 x1 v1 => ⟨b, good_bl v1, k _ B1 H1 x1 (Good.bl _)⟩⟩
  · cases e
theorem de_if {c : Expr} (hc : DT X c tc) (ha : DE X a ca) (hb : DE X b cb) : DE X (.IfExp c a b pos) (cIf tc ca cb) := by
  refine ⟨PE.weak (pe_ifExp hc.pt ha.pe hb.pe) fun σ H Q h => ?_⟩
  obtain ⟨B, ρ, r, ρ', R, e, k⟩ := h
  unfold cIf at e
  split at e
  · rename_i ρ1 e1
    refine ⟨B, ρ, true, ρ1, R, e1, fun B1 H1 x1 => ?_⟩
    exact iteT (tE_from R x1 e k)
  · rename_i ρ1 e1
    refine ⟨B, ρ, false, ρ1, R, e1, fun B1 H1 x1 => ?_⟩
    exact iteF (tE_from R x1 e k)
  · cases e
/-- a test whatever its whole is -/
structure DW (X : Cx) (e : Expr) (c : CT) : Prop where
  pw : PW X e (tT X.K c)
theorem DW.dt {e : Expr} (h : DW X e tc) : DT X e tc := ⟨h.pw.pt⟩
theorem dw_and1 (h : DT X a tc) : DW X (.BoolOp .And [a] pos) tc := ⟨pw_and1 h.pt⟩
theorem dw_or1 (h : DT X a tc) : DW X (.BoolOp .Or [a] pos) tc := ⟨pw_or1 h.pt⟩
theorem dw_and (ha : DT X a ta) (hb : DW X (.BoolOp .And (b :: rest) pos) tb) : DW X (.BoolOp .And (a :: b :: rest) pos) (tAndT ta tb) := by
  refine ⟨PW.weak (pw_and ha.pt hb.pw) fun σ H Q h => ?_⟩
  obtain ⟨B, ρ, r, ρ', R, e, k⟩ := h
  unfold tAndT at e
  split at e
  · rename_i ρ1 e1
    refine ⟨B, ρ, true, ρ1, R, e1, fun B1 H1 x1 => ?_⟩
    exact iteT (tT_from R x1 e k)
  · rename_i ρ1 e1
    cases e
    refine ⟨B, ρ, false, ρ', R, e1, fun B1 H1 x1 => ?_⟩
    exact iteF (k B1 H1 x1)
  · cases e
theorem dw_or (ha : DT X a ta) (hb : DW X (.BoolOp .Or (b :: rest) pos) tb) : DW X (.BoolOp .Or (a :: b :: rest) pos) (tOrT ta tb) := by
  refine ⟨PW.weak (pw_or ha.pt hb.pw) fun σ H Q h => ?_⟩
  obtain ⟨B, ρ, r, ρ', R, e, k⟩ := h
  unfold tOrT at e
  split at e
  · rename_i ρ1 e1
    refine ⟨B, ρ, false, ρ1, R, e1, fun B1 H1 x1 => ?_⟩
    exact iteF (tT_from R x1 e k)
  · rename_i ρ1 e1
    cases e
    refine ⟨B, ρ, true, ρ', R, e1, fun B1 H1 x1 => ?_⟩
    exact iteT (k B1 H1 x1)
  · cases e
theorem dt_not (ha : DT X a ta) : DT X (.UnaryOp .Not a pos) (tNotT ta) := by
  refine ⟨PT.weak (pt_not ha.pt) fun σ H Q h => ?_⟩
  obtain ⟨B, ρ, r, ρ', R, e, k⟩ := h
  unfold tNotT at e
  split at e
  · rename_i b ρ1 e1
    cases e
    exact ⟨B, ρ, _, ρ', R, e1, fun B1 H1 x1 => k B1 H1 x1⟩
  · cases e

/-! ### a comparison of three -/
def cChain (g g' : PyData → PyData → Option Val) (ca cb cc : CE) : CE := fun ρ => match cOp2 g ca cb ρ with
  | some (.d (.bool false), ρ') => some (.d (.bool false), ρ')
  | some (.d (.bool true), _) => (do
    let (_, ρ1) ← ca ρ
    let (rb, ρ2) ← cb ρ1
    let (rc, ρ3) ← cc ρ2
    let y ← dat ρ3 rb
    let z ← dat ρ3 rc
    let out ← g' y z
    pure (out, ρ3))
  | _ => none
theorem chain_read {g g' : PyData → PyData → Option Val} {r r' : R2} {ca cb cc : CE} (s : Sound2 K g r) (s' : Sound2 K g' r') : ∀ (σ : L2.St) (H : Hp) (Q : VK), tE K (cChain g g' ca cb cc) σ H Q → tChain r r' (tE K ca) (tE K cb) (tE K cc) σ H Q := by
  intro σ H Q h
  obtain ⟨B, ρ, z, ρ', R, e, k⟩ := h
  unfold cChain at e
  split at e
  · rename_i ρ0 e0
    cases e
    obtain ⟨ra, ρ1, rb, ρ2, x, y, h1, h2, h3, h4, h5, h6⟩ := cOp2_some e0
    have h6' : ρ' = ρ2 := h6
    subst h6'
    refine ⟨B, ρ, ra, ρ1, R, h1, fun v B1 H1 x1 v1 => ⟨B1, ρ1, rb, ρ', x1.rel, h2, fun u B2 H2 x2 v2 => ?_⟩⟩
    refine s B2 H2 v u x y _ _ x2.rel.tr0 ((v1.keep x1.rel x2).read x2.rel h3) (v2.read x2.rel h4) h5 (Outc.of R (x1.trans R x2) fun w B3 H3 x3 v3 => ?_)
    refine ⟨false, good_bl v3, ?_⟩
    exact iteF (k _ B3 H3 x3 (Good.bl false))
  · rename_i ρ0 e0
    obtain ⟨ra, ρ1, rb, ρ2, x, y, h1, h2, h3, h4, h5, h6⟩ := cOp2_some e0
    simp only [Option.bind_eq_bind, Option.bind_eq_some_iff, Option.pure_def, Option.some.injEq] at e
    obtain ⟨⟨qa, τ1⟩, f1, ⟨qb, τ2⟩, f2, ⟨rc, ρ3⟩, f3, y', f4, z', f5, out, f6, f7⟩ := e
    have f1' : ca ρ = some (qa, τ1) := f1
    rw [h1] at f1'
    cases f1'
    have f2' : cb ρ1 = some (qb, τ2) := f2
    rw [h2] at f2'
    cases f2'
    cases f7
    refine ⟨B, ρ, ra, ρ1, R, h1, fun v B1 H1 x1 v1 => ⟨B1, ρ1, rb, ρ2, x1.rel, h2, fun u B2 H2 x2 v2 => ?_⟩⟩
    refine s B2 H2 v u x y _ _ x2.rel.tr0 ((v1.keep x1.rel x2).read x2.rel h3) (v2.read x2.rel h4) h5 fun w H3 sm ow => ?_
    have ow' : Good K B2 H3 w (.bool true) := ow
    have x3 := Ext.ofSame x2.rel sm
    have v3 := v2.keep x2.rel x3
    refine ⟨true, good_bl ow', iteT ?_⟩
    refine ⟨B2, ρ2, rc, ρ3, x3.rel, f3, fun t B4 H4 x4 v4 => ?_⟩
    exact s' B4 H4 u t y' z' _ Q x4.rel.tr0 ((v3.keep x3.rel x4).read x4.rel f4) (v4.read x4.rel f5) f6 (Outc.of R (x1.trans R (x2.trans x1.rel (x3.trans x2.rel x4))) k)
  · cases e
variable {op op' : CmpOp} {rr rr' : R2} {g g' : PyData → PyData → Option Val} {cc : CE} {d : Expr}
theorem de_chain (ho : OpR X (compareOp op) rr) (ho' : OpR X (compareOp op') rr') (s : Sound2 X.K g rr) (s' : Sound2 X.K g' rr') (ha : DE X a ca) (hb : DE X b cb) (hc : DE X d cc)
    (hm : lastMarks [op, op'] [b, d] = false) : DE X (.Compare a [op, op'] [b, d] pos) (cChain g g' ca cb cc) := ⟨PE.weak (pe_chain ho ho' ha.pe hb.pe hc.pe hm) (chain_read s s')⟩
theorem dt_chain (ho : OpR X (compareOp op) rr) (ho' : OpR X (compareOp op') rr') (s : Sound2 X.K g rr) (s' : Sound2 X.K g' rr') (ha : DE X a ca) (hb : DE X b cb) (hc : DE X d cc)
    (hm : lastMarks [op, op'] [b, d] = false) : DT X (.Compare a [op, op'] [b, d] pos) (cTst (cChain g g' ca cb cc)) := ⟨PT.weak (pt_chain ho ho' ha.pe hb.pe hc.pe hm) (tst_read (chain_read s s'))⟩

/-! ### arguments, displays -/
def cNil : CA := fun ρ => some ([], ρ)
def cCons (c : CE) (cs : CA) : CA := fun ρ => do
  let (r, ρ1) ← c ρ
  let (rs, ρ2) ← cs ρ1
  pure (r :: rs, ρ2)
def datAll (ρ : Env) : List Val → Option (List PyData)
  | [] => some []
  | r :: rs => do
    let x ← dat ρ r
    let xs ← datAll ρ rs
    pure (x :: xs)
theorem cCons_some {c : CE} {cs : CA} {z : List Val × Env} (h : cCons c cs ρ = some z) : ∃ r ρ1 rs, c ρ = some (r, ρ1) ∧ cs ρ1 = some (rs, z.2) ∧ z.1 = r :: rs := by
  unfold cCons at h
  simp only [Option.bind_eq_bind, Option.bind_eq_some_iff, Option.pure_def, Option.some.injEq] at h
  obtain ⟨⟨r, ρ1⟩, h1, ⟨rs, ρ2⟩, h2, rfl⟩ := h
  exact ⟨r, ρ1, rs, h1, h2, rfl⟩
theorem das_nil : DAs X [] cNil := by
  refine ⟨PA.weak pa_nil fun σ H Q h => ?_⟩
  obtain ⟨B, ρ, r, ρ', R, e, k⟩ := h
  cases e
  exact k [] B H (.refl R) .nil
theorem RVs.early (k : ∀ a, H a = none → H0 a = none) (h : RVs K B' σ H H' ρ' rs vs) : RVs K B' σ H0 H' ρ' rs vs := by
  induction h with
  | nil => exact .nil
  | cons a b _ ih => exact .cons (a.early fun _ a n => k a n) b ih
theorem RVs.apart {a : Addr} (n : H a ≠ none) (h : RVs K B' σ H H' ρ' rs vs) : Apart (.ref a) rs vs := by
  induction h with
  | nil => trivial
  | cons x y _ ih =>
    rename_i r u rs us _
    cases r with
    | d _ => exact ih
    | b _ => exact ih
    | n z =>
      refine ⟨fun e => ?_, ih⟩
      obtain ⟨a', _, _, _, rfl, m, _⟩ := x
      cases e
      exact n m
theorem das_cons {e : Expr} {es : List Expr} {c : CE} {cs : CA} (ha : DE X e c) (hr : DAs X es cs) (hs : starEach (e :: es) X.env = (false, eval e X.env) :: starEach es X.env) : DAs X (e :: es) (cCons c cs) := by
  refine ⟨PA.weak (pa_cons ha.pe hr.pa hs) fun σ H Q h => ?_⟩
  obtain ⟨B, ρ, z, ρ', R, e, k⟩ := h
  obtain ⟨r, ρ1, rs, h1, h2, h3⟩ := cCons_some e
  have h3' : z = r :: rs := h3
  subst h3'
  refine ⟨B, ρ, r, ρ1, R, h1, fun v B1 H1 x1 v1 => ⟨B1, ρ1, rs, ρ', x1.rel, h2, fun vs B2 H2 x2 v2 => ?_⟩⟩
  refine k (v :: vs) B2 H2 (x1.trans R x2) (.cons (v1.keep x1.rel x2) (fun x ex => ?_) (v2.early fun a n => x1.none_of R n))
  subst ex
  obtain ⟨a, _, _, _, rfl, _, _, _, q, _⟩ := v1
  exact v2.apart (by rw [q]; exact fun z => nomatch z)
/-- the values as data, all to be read -/
inductive Reads' (K : PySem.W.Frag) (B : Addr → Prop) (H : Hp) : List V → List PyData → Prop
  | nil : Reads' K B H [] []
  | cons {v : V} {vs : List V} {x : PyData} {xs : List PyData} : Read K B H v x → Reads' K B H vs xs → Reads' K B H (v :: vs) (x :: xs)
theorem datAll_cons {r : Val} {rs : List Val} {zs : List PyData} (h : datAll ρ (r :: rs) = some zs) : ∃ x xs, dat ρ r = some x ∧ datAll ρ rs = some xs ∧ zs = x :: xs := by
  simp only [datAll, Option.bind_eq_bind, Option.bind_eq_some_iff, Option.pure_def, Option.some.injEq] at h
  obtain ⟨x, h1, xs, h2, rfl⟩ := h
  exact ⟨x, xs, h1, h2, rfl⟩
theorem RVs.read (R : Rel K B' σ H' ρ') : ∀ {rs : List Val} {vs : List V} {xs : List PyData}, RVs K B' σ H H' ρ' rs vs → datAll ρ' rs = some xs → Reads' K B' H' vs xs
  | _, _, _, .nil, e => by
    cases e
    exact .nil
  | _, _, _, .cons a _ t, e => by
    obtain ⟨x, xs, h1, h2, rfl⟩ := datAll_cons e
    exact .cons (a.read R h1) (RVs.read R t h2)
/-- values that may be kept in other data: no lent lists -/
def keepV : Val → Option PyData
  | .d x => some x
  | .n x => some x
  | .b _ => none
def keepAll : List Val → Option (List PyData)
  | [] => some []
  | r :: rs => do
    let x ← keepV r
    let xs ← keepAll rs
    pure (x :: xs)
theorem keepAll_cons {r : Val} {rs : List Val} {zs : List PyData} (h : keepAll (r :: rs) = some zs) : ∃ x xs, keepV r = some x ∧ keepAll rs = some xs ∧ zs = x :: xs := by
  simp only [keepAll, Option.bind_eq_bind, Option.bind_eq_some_iff, Option.pure_def, Option.some.injEq] at h
  obtain ⟨x, h1, xs, h2, rfl⟩ := h
  exact ⟨x, xs, h1, h2, rfl⟩
/-- a kept value is good over the B of the beginning -/
theorem RV.good (R : Rel K B σ H ρ) (x : Ext K B σ H ρ B' H' ρ') (h : RV K B' σ H H' ρ' r v) {y : PyData} (e : keepV r = some y) : Good K B H' v y := by
  have dn : ∀ a, B a → B' a ∨ H' a = none := fun a z => .inl (x.up a z)
  cases r with
  | d z =>
    cases e
    exact Good.mv dn (fun _ _ _ q => q) h
  | n z =>
    cases e
    obtain ⟨a, vs, ds, rfl, rfl, n, b, no, q, g⟩ := h
    exact .lst (fun z => R.tr0 a z n) (.inl q) (g.mv dn fun _ _ _ q => q)
  | b i => cases e
theorem RVs.good (R : Rel K B σ H ρ) (x : Ext K B σ H ρ B' H' ρ') : ∀ {rs : List Val} {vs : List V} {xs : List PyData}, RVs K B' σ H H' ρ' rs vs → keepAll rs = some xs → GoodAll K B H' vs xs
  | _, _, _, .nil, e => by
    cases e
    exact .nil
  | _, _, _, .cons a _ t, e => by
    obtain ⟨y, ys, h1, h2, rfl⟩ := keepAll_cons e
    exact .cons (a.good R x h1) (RVs.good R x t h2)
/-- B may shrink to what it was -/
theorem Rel.dn (r : Rel K B σ H ρ) (R : Rel K B' σ H' ρ') (sl : Slots ρ ρ') (up : ∀ a, B a → B' a) : Rel K B σ H' ρ' where
  dat := fun i x e => by
    obtain ⟨v, e1, g⟩ := R.dat i x e
    exact ⟨v, e1, g.mv (fun a z => .inl (up a z)) fun _ _ _ q => q⟩
  own := fun i xs e => by
    obtain ⟨a, vs, e1, b, h, g⟩ := R.own i xs e
    have o : OwnA σ ρ a := (sl.ownA a).mp ⟨i, xs, e, e1⟩
    exact ⟨a, vs, e1, r.ownB o, h, g.mv (fun a z => .inl (up a z)) fun _ _ _ q => q⟩
  ro := fun i xs e => by
    obtain ⟨a, vs, e1, q, g⟩ := R.ro i xs e
    exact ⟨a, vs, e1, q, g.mv (fun a z => .inl (up a z)) fun _ _ _ q => q⟩
  dis := R.dis
  tr := fun a z => R.tr a (up a z)
  len := R.len
theorem Ext.dn (R : Rel K B σ H ρ) (x : Ext K B σ H ρ B' H' ρ') : Ext K B σ H ρ B H' ρ' := ⟨fun _ h => h, fun _ h => .inl h, R.dn x.rel x.sl x.up, x.sl, x.keep⟩
/-- (a, b, ..), [a, b, ..] -/
def cTup (cs : CA) : CE := fun ρ => do
  let (rs, ρ') ← cs ρ
  let xs ← keepAll rs
  if xs.length ≤ sizeLine then pure (.d (.tuple xs), ρ') else none
def cLst (cs : CA) : CE := fun ρ => do
  let (rs, ρ') ← cs ρ
  let xs ← keepAll rs
  if xs.length ≤ sizeLine then pure (.n (.list xs), ρ') else none
theorem cTup_some {cs : CA} {z : Val × Env} (h : cTup cs ρ = some z) : ∃ rs xs, cs ρ = some (rs, z.2) ∧ keepAll rs = some xs ∧ xs.length ≤ sizeLine ∧ z.1 = .d (.tuple xs) := by
  unfold cTup at h
  simp only [Option.bind_eq_bind, Option.bind_eq_some_iff, Option.pure_def] at h
  obtain ⟨⟨rs, ρ'⟩, h1, xs, h2, h3⟩ := h
  split at h3
  · rename_i h4
    cases h3
    exact ⟨rs, xs, h1, h2, h4, rfl⟩
  · cases h3
theorem cLst_some {cs : CA} {z : Val × Env} (h : cLst cs ρ = some z) : ∃ rs xs, cs ρ = some (rs, z.2) ∧ keepAll rs = some xs ∧ xs.length ≤ sizeLine ∧ z.1 = .n (.list xs) := by
  unfold cLst at h
  simp only [Option.bind_eq_bind, Option.bind_eq_some_iff, Option.pure_def] at h
  obtain ⟨⟨rs, ρ'⟩, h1, xs, h2, h3⟩ := h
  split at h3
  · rename_i h4
    cases h3
    exact ⟨rs, xs, h1, h2, h4, rfl⟩
  · cases h3
theorem de_tup {es : List Expr} {cs : CA} {x1 : Nat} (h : DAs X es cs) : DE X (.Tuple es x1 pos) (cTup cs) := by
  refine ⟨PE.weak (pe_tup h.pa) fun σ H Q h => ?_⟩
  obtain ⟨B, ρ, z, ρ', R, e, k⟩ := h
  obtain ⟨rs, xs, h1, h2, h3, h4⟩ := cTup_some e
  have h4' : z = .d (.tuple xs) := h4
  subst h4'
  refine ⟨B, ρ, rs, ρ', R, h1, fun vs B1 H1 x1 v1 => ?_⟩
  have g := v1.good R x1 h2
  refine ⟨by rw [g.len]; exact h3, fun p np => ?_⟩
  have x2 := (x1.dn R)
  have x3 := x2.trans R (.ofSame x2.rel (same_updD (o := .tup vs) np))
  exact k _ B _ x3 (OutV.tup x2.rel.tr0 np g)
theorem de_lst {es : List Expr} {cs : CA} (h : DAs X es cs) : DE X (.List es pos) (cLst cs) := by
  refine ⟨PE.weak (pe_lst h.pa) fun σ H Q h => ?_⟩
  obtain ⟨B, ρ, z, ρ', R, e, k⟩ := h
  obtain ⟨rs, xs, h1, h2, h3, h4⟩ := cLst_some e
  have h4' : z = .n (.list xs) := h4
  subst h4'
  refine ⟨B, ρ, rs, ρ', R, h1, fun vs B1 H1 x1 v1 => ?_⟩
  have g := v1.good R x1 h2
  refine ⟨by rw [g.len]; exact h3, fun p np => ?_⟩
  have x2 := (x1.dn R)
  exact Outc.of (r := .n (.list xs)) R x2 k _ _ (same_updD np) (OutV.lst np g)
/-- {} -/
theorem de_dic0 : DE X (.Dict [] [] pos) (cCst (.dict [])) := by
  refine ⟨PE.weak pe_dnewK fun σ H Q h => ?_⟩
  obtain ⟨B, ρ, r, ρ', R, e, k⟩ := h
  cases e
  intro p np
  exact k _ B _ (.ofSame R (same_updD np)) (Good.dic0 (fun z => R.tr0 _ z np) upd_same)

/-! ### built-in functions -/
def cFn (g : List PyData → Option Val) (cs : CA) : CE := fun ρ => do
  let (rs, ρ') ← cs ρ
  let xs ← datAll ρ' rs
  let out ← g xs
  pure (out, ρ')
def SoundN (K : PySem.W.Frag) (g : List PyData → Option Val) (r : List V → Hp → VK → Prop) : Prop :=
  ∀ (B : Addr → Prop) (H : Hp) (vs : List V) (xs : List PyData) (out : Val) (Q : VK), (∀ b, B b → H b ≠ none) → Reads' K B H vs xs → g xs = some out → Outc K B H out Q → r vs H Q
theorem cFn_some {g : List PyData → Option Val} {cs : CA} {z : Val × Env} (h : cFn g cs ρ = some z) : ∃ rs xs, cs ρ = some (rs, z.2) ∧ datAll z.2 rs = some xs ∧ g xs = some z.1 := by
  unfold cFn at h
  simp only [Option.bind_eq_bind, Option.bind_eq_some_iff, Option.pure_def, Option.some.injEq] at h
  obtain ⟨⟨rs, ρ'⟩, h1, xs, h2, out, h3, rfl⟩ := h
  exact ⟨rs, xs, h1, h2, h3⟩
theorem fn_read {g : List PyData → Option Val} {r : List V → Hp → VK → Prop} {cs : CA} (s : SoundN K g r) : ∀ (σ : L2.St) (H : Hp) (Q : VK), tE K (cFn g cs) σ H Q → tCB r (tAs K cs) σ H Q := by
  intro σ H Q h
  obtain ⟨B, ρ, z, ρ', R, e, k⟩ := h
  obtain ⟨rs, xs, h1, h2, h3⟩ := cFn_some e
  exact ⟨B, ρ, rs, ρ', R, h1, fun vs B1 H1 x1 v1 => s B1 H1 vs xs z Q x1.rel.tr0 (v1.read x1.rel h2) h3 (Outc.of R x1 k)⟩
theorem de_callB {x : Str} {p : Pos} {e : Expr} {es : List Expr} {cs : CA} {id : String} {r : List V → Hp → VK → Prop} {g : List PyData → Option Val} (hc : CallR X (.builtin id) r) (s : SoundN X.K g r) (hg : Gl X x) (hm : X.mg x = none) (hv : bootBuiltins x = some (.builtin id)) (ha : DAs X (e :: es) cs)
    (hn : x ≠ "__name__") (hdb : (x == ("__debug__" : Str)) = false) (he : starEach (e :: es) X.env = (false, eval e X.env) :: starEach es X.env) (hpl : (backTo pos (starEach es X.env)).any (·.1) = false) : DE X (.Call (.Name x p) (e :: es) [] pos) (cFn g cs) :=
  ⟨PE.weak (pe_callB hc hg hm hv ha.pa hn hdb he hpl) (fn_read s)⟩
theorem de_callTy {x : Str} {p : Pos} {e : Expr} {es : List Expr} {cs : CA} {T : String} {r : List V → Hp → VK → Prop} {g : List PyData → Option Val} (hc : CallR X (.type T) r) (s : SoundN X.K g r) (hg : Gl X x) (hm : X.mg x = none) (hv : bootBuiltins x = some (.type T)) (ha : DAs X (e :: es) cs)
    (hn : x ≠ "__name__") (hdb : (x == ("__debug__" : Str)) = false) (he : starEach (e :: es) X.env = (false, eval e X.env) :: starEach es X.env) (hpl : (backTo pos (starEach es X.env)).any (·.1) = false) : DE X (.Call (.Name x p) (e :: es) [] pos) (cFn g cs) :=
  ⟨PE.weak (pe_callTy hc hg hm hv ha.pa hn hdb he hpl) (fn_read s)⟩

/-! ### subscripts -/
theorem de_ix {r : R2} {g : PyData → PyData → Option Val} (hr : IxR X r) (s : Sound2 X.K g r) (ha : DE X a ca) (hb : DE X b cb) (hs : PlainIx b) : DE X (.Subscript a b pos) (cOp2 g ca cb) :=
  ⟨PE.weak (pe_ix hr ha.pe hb.pe hs) (two_read s)⟩
end
end DL

/-! DL4: defs of the program: what they promise, how they are called. -/
namespace DL
open PySem PySem.Spec PyProof.Rows L2

/-- a def's sense: from its arguments to the result and to what its arguments' lists hold then -/
abbrev FE := List SV → Option (Val × List SV)
abbrev slots (vs : List V) : L2.St := vs.map some
abbrev envs (svs : List SV) : Env := svs.map some
def spD (K : PySem.W.Frag) (np : Nat) (F : FE) : Sp := fun vs H Q _ => vs.length = np ∧ ∃ B svs r outs, Rel K B (slots vs) H (envs svs) ∧ F svs = some (r, outs) ∧
  ∀ v B' H', Ext K B (slots vs) H (envs svs) B' H' (envs outs) → RV K B' (slots vs) H H' (envs outs) r v → Q v H'

/-- no repr is under way -/
structure RoomG (k : Nat) (A : Around) : Prop where
  r : Room k A
  gd : A.guards = some []
theorem RoomG.mono {j k : Nat} {A : Around} (h : RoomG k A) (l : j ≤ k) : RoomG j A := ⟨h.r.mono l, h.gd⟩
/-- a def keeps a promise, called where no repr is under way -/
structure FnG (P : Program) (w : World) (K : PySem.W.Frag) (mg : Str → Option Value) (base : Heap) (k : Nat) (f : Addr) (fd : FuncData) (ps : List Str) (sp : Sp) : Prop where
  len : ∀ vs H Q E, sp vs H Q E → vs.length = ps.length
  run : ∀ (A : Around) (outer : List PySem.Env) (s : Shared) (H : Hp) (args : Args) (us : List Value) (vs : List V) (Q : VK) (E : XK), RoomG k A → Env0 P w K mg base A outer s H → BindsTo s fd args (ps.zip us) → Vals vs us → sp vs H Q E →
    codeAny (model P w) A (.call (.ref f) args) (CR CX0 outer P w H s Q E) s
theorem FnG.mono {P : Program} {w : World} {K : PySem.W.Frag} {mg : Str → Option Value} {base : Heap} {j k : Nat} {f : Addr} {fd : FuncData} {ps : List Str} {sp : Sp} (F : FnG P w K mg base j f fd ps sp) (h : j ≤ k) : FnG P w K mg base k f fd ps sp :=
  ⟨F.len, fun A outer s H args us vs Q E hr => F.run A outer s H args us vs Q E (hr.mono h)⟩

/-- an argument: io: the def may change the list -/
def argB : Bool → Option (Option SV) → Option SV
  | true, some (some (.own xs)) => some (.own xs)
  | false, some (some (.own xs)) => some (.ro xs)
  | false, some (some (.ro xs)) => some (.ro xs)
  | _, _ => none
def argN : PyData → Option SV
  | .list xs => some (.own xs)
  | _ => none
def argS (ρ : Env) (m : Bool) : Val → Option SV
  | .d x => match m with
    | true => none
    | false => some (.d x)
  | .n x => match m with
    | true => argN x
    | false => some (.d x)
  | .b i => argB m ρ[i]?
inductive ArgI (ρ : Env) : Bool → Val → SV → Prop
  | d (x : PyData) : ArgI ρ false (.d x) (.d x)
  | n (x : PyData) : ArgI ρ false (.n x) (.d x)
  | nn (xs : List PyData) : ArgI ρ true (.n (.list xs)) (.own xs)
  | bo (i : Nat) (xs : List PyData) : ρ[i]? = some (some (.own xs)) → ArgI ρ true (.b i) (.own xs)
  | br (i : Nat) (xs : List PyData) : ρ[i]? = some (some (.own xs)) → ArgI ρ false (.b i) (.ro xs)
  | rr (i : Nat) (xs : List PyData) : ρ[i]? = some (some (.ro xs)) → ArgI ρ false (.b i) (.ro xs)
theorem argS_inv {ρ : Env} {m : Bool} {r : Val} {sv : SV} (h : argS ρ m r = some sv) : ArgI ρ m r sv := by
  cases r with
  | d x =>
    cases m with
    | true => cases h
    | false => cases h; exact .d x
  | n x =>
    cases m with
    | true =>
      cases x with
      | list xs => cases h; exact .nn xs
      | _ => cases h
    | false => cases h; exact .n x
  | b i =>
    have h : argB m ρ[i]? = some sv := h
    generalize e : ρ[i]? = o at h
    unfold argB at h
    split at h
    · cases h; exact .bo i _ e
    · cases h; exact .br i _ e
    · cases h; exact .rr i _ e
    · cases h
def argAll (ρ : Env) : List Bool → List Val → Option (List SV)
  | [], [] => some []
  | m :: ms, r :: rs => do
    let x ← argS ρ m r
    let xs ← argAll ρ ms rs
    pure (x :: xs)
  | _, _ => none
def bs : List Val → List Nat
  | [] => []
  | .b i :: rs => i :: bs rs
  | .d _ :: rs => bs rs
  | .n _ :: rs => bs rs
/-- what the def has left in the lists that it was lent -/
def wb1 : Bool → Val → SV → Env → Env
  | true, .b i, sv, ρ => ρ.set i (some sv)
  | true, .d _, _, ρ => ρ
  | true, .n _, _, ρ => ρ
  | false, _, _, ρ => ρ
def wb : List Bool → List Val → List SV → Env → Env
  | [], _, _, ρ => ρ
  | _ :: _, [], _, ρ => ρ
  | _ :: _, _ :: _, [], ρ => ρ
  | m :: ms, r :: rs, sv :: svs, ρ => wb ms rs svs (wb1 m r sv ρ)
def notB : Val → Bool
  | .b _ => false
  | _ => true
/-- the def applied to its arguments' values -/
def cApp (np : Nat) (F : FE) (ms : List Bool) (rs : List Val) (ρ1 : Env) : Option (Val × Env) :=
  if rs.length = np ∧ (bs rs).Nodup then do
    let svs ← argAll ρ1 ms rs
    let (r, outs) ← F svs
    if notB r = true then pure (r, wb ms rs outs ρ1) else none
  else none
def cCall (np : Nat) (F : FE) (ms : List Bool) (cs : CA) : CE := fun ρ => do
  let (rs, ρ1) ← cs ρ
  cApp np F ms rs ρ1
/-- a call with keywords ks: the values in the parameters' order -/
def putK {α : Type} (ps ks : List Str) (us ws : List α) : List α := ps.filterMap fun p => (ps.zip us ++ ks.zip ws).lookup p
def settle : Val → Val
  | .n x => .d x
  | r => r
def cCallK (np : Nat) (F : FE) (ms : List Bool) (ps ks : List Str) (cs ck : CA) : CE := fun ρ => do
  let (rs, ρ1) ← cs ρ
  let (zs, ρ2) ← ck ρ1
  cApp np F ms (putK ps ks (rs.map settle) (zs.map settle)) ρ2

section
variable {ρ : Env} {ms : List Bool} {rs : List Val} {svs outs : List SV}
theorem argAll_get : ∀ {ms : List Bool} {rs : List Val} {svs : List SV} {j : Nat} {sv : SV}, argAll ρ ms rs = some svs → svs[j]? = some sv → ∃ m r, ms[j]? = some m ∧ rs[j]? = some r ∧ argS ρ m r = some sv
  | [], [], svs, j, sv, h, e => by
    cases h
    simp at e
  | [], _ :: _, _, _, _, h, _ => by simp [argAll] at h
  | _ :: _, [], _, _, _, h, _ => by simp [argAll] at h
  | m :: ms, r :: rs, svs, j, sv, h, e => by
    simp only [argAll, Option.bind_eq_bind, Option.bind_eq_some_iff, Option.pure_def, Option.some.injEq] at h
    obtain ⟨x, h1, xs, h2, rfl⟩ := h
    cases j with
    | zero =>
      have e' : x = sv := Option.some.inj e
      subst e'
      exact ⟨m, r, rfl, rfl, h1⟩
    | succ j => exact argAll_get (j := j) h2 e
theorem argAll_len : ∀ {ms : List Bool} {rs : List Val} {svs : List SV}, argAll ρ ms rs = some svs → svs.length = rs.length ∧ ms.length = rs.length
  | [], [], svs, h => by
    cases h
    exact ⟨rfl, rfl⟩
  | [], _ :: _, _, h => by simp [argAll] at h
  | _ :: _, [], _, h => by simp [argAll] at h
  | m :: ms, r :: rs, svs, h => by
    simp only [argAll, Option.bind_eq_bind, Option.bind_eq_some_iff, Option.pure_def, Option.some.injEq] at h
    obtain ⟨x, h1, xs, h2, rfl⟩ := h
    obtain ⟨l1, l2⟩ := argAll_len h2
    exact ⟨by rw [List.length_cons, List.length_cons, l1], by rw [List.length_cons, List.length_cons, l2]⟩
theorem bs_mem : ∀ {rs : List Val} {j p : Nat}, rs[j]? = some (.b p) → p ∈ bs rs
  | .b i :: rs, 0, p, e => by
    cases e
    exact List.mem_cons_self
  | .b i :: rs, j + 1, p, e => List.mem_cons_of_mem _ (bs_mem (j := j) e)
  | .d i :: rs, 0, p, e => by cases e
  | .d i :: rs, j + 1, p, e => bs_mem (rs := rs) (j := j) e
  | .n i :: rs, 0, p, e => by cases e
  | .n i :: rs, j + 1, p, e => bs_mem (rs := rs) (j := j) e
  | [], _, _, e => by simp at e
theorem bs_one : ∀ {rs : List Val} {i j p : Nat}, (bs rs).Nodup → rs[i]? = some (.b p) → rs[j]? = some (.b p) → i = j
  | [], _, _, _, _, e, _ => by simp at e
  | .b q :: rs, 0, 0, p, _, _, _ => rfl
  | .b q :: rs, 0, j + 1, p, nd, e1, e2 => by
    cases e1
    exact absurd (bs_mem (rs := rs) (j := j) e2) (List.nodup_cons.mp nd).1
  | .b q :: rs, i + 1, 0, p, nd, e1, e2 => by
    cases e2
    exact absurd (bs_mem (rs := rs) (j := i) e1) (List.nodup_cons.mp nd).1
  | .b q :: rs, i + 1, j + 1, p, nd, e1, e2 => by rw [bs_one (rs := rs) (i := i) (j := j) (List.nodup_cons.mp nd).2 e1 e2]
  | .d q :: rs, 0, _, p, _, e1, _ => by cases e1
  | .d q :: rs, _ + 1, 0, p, _, _, e2 => by cases e2
  | .d q :: rs, i + 1, j + 1, p, nd, e1, e2 => by rw [bs_one (rs := rs) (i := i) (j := j) nd e1 e2]
  | .n q :: rs, 0, _, p, _, e1, _ => by cases e1
  | .n q :: rs, _ + 1, 0, p, _, _, e2 => by cases e2
  | .n q :: rs, i + 1, j + 1, p, nd, e1, e2 => by rw [bs_one (rs := rs) (i := i) (j := j) nd e1 e2]
theorem wb1_len (m : Bool) (r : Val) (sv : SV) (ρ : Env) : (wb1 m r sv ρ).length = ρ.length := by
  cases m <;> cases r <;> simp [wb1]
theorem wb1_miss {m : Bool} {r : Val} {sv : SV} {ρ : Env} {p : Nat} (h : m = true → r = .b p → False) : (wb1 m r sv ρ)[p]? = ρ[p]? := by
  cases m with
  | false => cases r <;> rfl
  | true =>
    cases r with
    | d _ => rfl
    | n _ => rfl
    | b i =>
      by_cases e : i = p
      · subst e
        exact (h rfl rfl).elim
      · exact List.getElem?_set_ne e
theorem wb_len : ∀ (ms : List Bool) (rs : List Val) (svs : List SV) (ρ : Env), (wb ms rs svs ρ).length = ρ.length
  | [], _, _, ρ => rfl
  | _ :: _, [], _, ρ => rfl
  | _ :: _, _ :: _, [], ρ => rfl
  | m :: ms, r :: rs, sv :: svs, ρ => by rw [wb, wb_len ms rs svs, wb1_len]
theorem wb_miss : ∀ {ms : List Bool} {rs : List Val} {svs : List SV} {ρ : Env} {p : Nat}, (∀ (j : Nat) sv, ms[j]? = some true → rs[j]? = some (.b p) → svs[j]? = some sv → False) → (wb ms rs svs ρ)[p]? = ρ[p]?
  | [], _, _, ρ, _, _ => rfl
  | _ :: _, [], _, ρ, _, _ => rfl
  | _ :: _, _ :: _, [], ρ, _, _ => rfl
  | m :: ms, r :: rs, sv :: svs, ρ, p, h => by
    rw [wb, wb_miss (ms := ms) (rs := rs) (svs := svs) fun j => h (j + 1)]
    exact wb1_miss fun e1 e2 => h 0 sv (by rw [e1]; rfl) (by rw [e2]; rfl) rfl
theorem bs_tail {r : Val} {rs : List Val} (nd : (bs (r :: rs)).Nodup) : (bs rs).Nodup := by
  cases r with
  | b q => exact (List.nodup_cons.mp nd).2
  | d q => exact nd
  | n q => exact nd
theorem wb_hit : ∀ {ms : List Bool} {rs : List Val} {svs : List SV} {ρ : Env} {p j : Nat} {sv : SV}, (bs rs).Nodup → ms[j]? = some true → rs[j]? = some (.b p) → svs[j]? = some sv → p < ρ.length → (wb ms rs svs ρ)[p]? = some (some sv)
  | [], _, _, _, _, _, _, _, e, _, _, _ => by simp at e
  | _ :: _, [], _, _, _, _, _, _, _, e, _, _ => by simp at e
  | _ :: _, _ :: _, [], _, _, _, _, _, _, _, e, _ => by simp at e
  | m :: ms, r :: rs, sv' :: svs, ρ, p, j + 1, sv, nd, e1, e2, e3, hp => by
    rw [wb]
    exact wb_hit (j := j) (bs_tail nd) e1 e2 e3 (by rw [wb1_len]; exact hp)
  | m :: ms, r :: rs, sv' :: svs, ρ, p, 0, sv, nd, e1, e2, e3, hp => by
    have e1' : m = true := Option.some.inj e1
    have e2' : r = .b p := Option.some.inj e2
    have e3' : sv' = sv := Option.some.inj e3
    subst e1' e2' e3'
    rw [wb, wb_miss (ms := ms) (rs := rs) (svs := svs) fun j sv _ q _ => (List.nodup_cons.mp nd).1 (bs_mem q)]
    exact List.getElem?_set_self hp
end

section
variable {K : PySem.W.Frag} {B B' B'' B1 B2 : Addr → Prop} {σ : L2.St} {H H0 H' H'' H1 H2 : Hp} {ρ ρ' ρ'' ρ1 : Env} {r : Val} {v : V} {rs : List Val} {vs : List V} {X : Cx} {ms : List Bool} {svs outs : List SV}
theorem RVs.get : ∀ {rs : List Val} {vs : List V} {j : Nat} {r : Val}, RVs K B' σ H H' ρ' rs vs → rs[j]? = some r → ∃ v, vs[j]? = some v ∧ RV K B' σ H H' ρ' r v
  | _, _, 0, _, .cons a _ _, e => by
    cases e
    exact ⟨_, rfl, a⟩
  | _, _, j + 1, _, .cons _ _ t, e => RVs.get (j := j) t e
  | _, _, _, _, .nil, e => by simp at e
theorem RVs.len : ∀ {rs : List Val} {vs : List V}, RVs K B' σ H H' ρ' rs vs → vs.length = rs.length
  | _, _, .nil => rfl
  | _, _, .cons _ _ t => by rw [List.length_cons, List.length_cons, RVs.len t]
theorem Apart.get : ∀ {rs : List Val} {vs : List V} {v : V} {j : Nat} {x : PyData}, Apart v rs vs → rs[j]? = some (.n x) → vs[j]? = some v → False
  | .n _ :: rs, u :: us, v, 0, x, h, _, e => by
    cases e
    exact h.1 rfl
  | .n _ :: rs, u :: us, v, j + 1, x, h, e1, e2 => Apart.get (rs := rs) (j := j) h.2 e1 e2
  | .d _ :: rs, u :: us, v, 0, x, h, e, _ => by cases e
  | .d _ :: rs, u :: us, v, j + 1, x, h, e1, e2 => Apart.get (rs := rs) (vs := us) (j := j) h e1 e2
  | .b _ :: rs, u :: us, v, 0, x, h, e, _ => by cases e
  | .b _ :: rs, u :: us, v, j + 1, x, h, e1, e2 => Apart.get (rs := rs) (vs := us) (j := j) h e1 e2
  | [], _, _, _, _, _, e, _ => by simp at e
  | _ :: _, [], _, _, _, _, _, e => by simp at e
theorem RVs.one : ∀ {rs : List Val} {vs : List V} {i j : Nat} {x y : PyData} {v : V}, RVs K B' σ H H' ρ' rs vs → rs[i]? = some (.n x) → rs[j]? = some (.n y) → vs[i]? = some v → vs[j]? = some v → i = j
  | _, _, 0, 0, _, _, _, _, _, _, _, _ => rfl
  | _, _, 0, j + 1, _, _, _, .cons a b t, e1, e2, e3, e4 => by
    cases e1
    cases e3
    exact ((b _ rfl).get (j := j) e2 e4).elim
  | _, _, i + 1, 0, _, _, _, .cons a b t, e1, e2, e3, e4 => by
    cases e2
    cases e4
    exact ((b _ rfl).get (j := i) e1 e3).elim
  | _, _, i + 1, j + 1, _, _, _, .cons a b t, e1, e2, e3, e4 => by rw [RVs.one (i := i) (j := j) t e1 e2 e3 e4]
  | _, _, _, _, _, _, _, .nil, e, _, _, _ => by simp at e
/-- the same, place by place -/
structure RVp (K : PySem.W.Frag) (B' : Addr → Prop) (σ : L2.St) (H H' : Hp) (ρ' : Env) (rs : List Val) (vs : List V) : Prop where
  get : ∀ {j : Nat} {r : Val}, rs[j]? = some r → ∃ v, vs[j]? = some v ∧ RV K B' σ H H' ρ' r v
  len : vs.length = rs.length
  one : ∀ {i j : Nat} {x y : PyData} {v : V}, rs[i]? = some (.n x) → rs[j]? = some (.n y) → vs[i]? = some v → vs[j]? = some v → i = j
theorem RVs.toP {rs : List Val} {vs : List V} (h : RVs K B' σ H H' ρ' rs vs) : RVp K B' σ H H' ρ' rs vs := ⟨h.get, h.len, h.one⟩
theorem envs_get {svs : List SV} {j : Nat} {sv : SV} : (envs svs)[j]? = some (some sv) ↔ svs[j]? = some sv := by
  rw [List.getElem?_map]
  cases svs[j]? <;> simp
theorem slots_get {vs : List V} {j : Nat} {v : V} : (slots vs)[j]? = some (some v) ↔ vs[j]? = some v := by
  rw [List.getElem?_map]
  cases vs[j]? <;> simp
/-- the new lists that the def gets as data -/
def DropA (ms : List Bool) (rs : List Val) (vs : List V) (a : Addr) : Prop := ∃ (j : Nat) (x : PyData), ms[j]? = some false ∧ rs[j]? = some (.n x) ∧ vs[j]? = some (V.ref a)
/-- an own list of the def's frame: a lent one of the caller's, or a new one -/
theorem arg_own (h : argAll ρ1 ms rs = some svs) {j : Nat} {xs : List PyData} (e : svs[j]? = some (.own xs)) : ms[j]? = some true ∧ (rs[j]? = some (.n (.list xs)) ∨ ∃ i, rs[j]? = some (.b i) ∧ ρ1[i]? = some (some (.own xs))) := by
  obtain ⟨m, r, e1, e2, e3⟩ := argAll_get h e
  cases argS_inv e3 with
  | nn => exact ⟨e1, .inl e2⟩
  | bo i _ q => exact ⟨e1, .inr ⟨i, e2, q⟩⟩
theorem arg_d (h : argAll ρ1 ms rs = some svs) {j : Nat} {x : PyData} (e : svs[j]? = some (.d x)) : rs[j]? = some (.d x) ∨ (ms[j]? = some false ∧ rs[j]? = some (.n x)) := by
  obtain ⟨m, r, e1, e2, e3⟩ := argAll_get h e
  cases argS_inv e3 with
  | d => exact .inl e2
  | n => exact .inr ⟨e1, e2⟩
theorem arg_ro (h : argAll ρ1 ms rs = some svs) {j : Nat} {xs : List PyData} (e : svs[j]? = some (.ro xs)) : ms[j]? = some false ∧ ∃ i, rs[j]? = some (.b i) ∧ (ρ1[i]? = some (some (.own xs)) ∨ ρ1[i]? = some (some (.ro xs))) := by
  obtain ⟨m, r, e1, e2, e3⟩ := argAll_get h e
  cases argS_inv e3 with
  | br i _ q => exact ⟨e1, i, e2, .inl q⟩
  | rr i _ q => exact ⟨e1, i, e2, .inr q⟩
/-- whose own lists the def's are -/
theorem arg_ownA (x1 : Ext K B σ H ρ B1 H1 ρ1) (v1 : RVp K B1 σ H H1 ρ1 rs vs) (h : argAll ρ1 ms rs = some svs) {a : Addr} (o : OwnA (slots vs) (envs svs) a) :
    ∃ j : Nat, vs[j]? = some (V.ref a) ∧ ms[j]? = some true ∧ B1 a ∧ ((∃ xs, rs[j]? = some (.n (.list xs)) ∧ H a = none ∧ ¬ OwnA σ ρ1 a) ∨ ∃ i xs, rs[j]? = some (.b i) ∧ ρ1[i]? = some (some (.own xs)) ∧ σ[i]? = some (some (V.ref a))) := by
  obtain ⟨j, xs, e1, e2⟩ := o
  have e1 := envs_get.mp e1
  have e2 := slots_get.mp e2
  obtain ⟨hm, q⟩ := arg_own h e1
  refine ⟨j, e2, hm, ?_⟩
  rcases q with q | ⟨i, q, q2⟩
  · obtain ⟨v, hv, rv⟩ := v1.get q
    rw [e2] at hv
    cases hv
    obtain ⟨a', _, _, _, e, n, b, no, _⟩ := rv
    cases e
    exact ⟨b, .inl ⟨xs, q, n, no⟩⟩
  · obtain ⟨v, hv, rv⟩ := v1.get q
    rw [e2] at hv
    cases hv
    obtain ⟨a', e3, e, _⟩ := rv
    cases e
    exact ⟨x1.rel.ownB ⟨i, xs, q2, e3⟩, .inr ⟨i, xs, q, q2, e3⟩⟩
theorem arg_ownA_kept (R : Rel K B σ H ρ) (x1 : Ext K B σ H ρ B1 H1 ρ1) (v1 : RVp K B1 σ H H1 ρ1 rs vs) (h : argAll ρ1 ms rs = some svs) {a : Addr} (o : OwnA (slots vs) (envs svs) a) : OwnA σ ρ a ∨ H a = none := by
  obtain ⟨j, _, _, _, q | ⟨i, xs, _, q2, q3⟩⟩ := arg_ownA x1 v1 h o
  · obtain ⟨_, _, n, _⟩ := q
    exact .inr n
  · exact .inl ((x1.sl.ownA a).mp ⟨i, xs, q2, q3⟩)
/-- the def's frame at its entry -/
theorem arg_rel (R : Rel K B σ H ρ) (x1 : Ext K B σ H ρ B1 H1 ρ1) (v1 : RVp K B1 σ H H1 ρ1 rs vs) (nd : (bs rs).Nodup) (h : argAll ρ1 ms rs = some svs) :
    Rel K (fun a => B1 a ∧ ¬ DropA ms rs vs a) (slots vs) H1 (envs svs) where
  dat := fun j x e => by
    have e := envs_get.mp e
    have dn : ∀ a, (B1 a ∧ ¬ DropA ms rs vs a) → B1 a ∨ H1 a = none := fun a z => .inl z.1
    rcases arg_d h e with q | ⟨q1, q⟩
    · obtain ⟨v, hv, rv⟩ := v1.get q
      exact ⟨v, slots_get.mpr hv, Good.mv dn (fun _ _ _ z => z) rv⟩
    · obtain ⟨v, hv, rv⟩ := v1.get q
      obtain ⟨a, us, ds, rfl, rfl, n, b, no, e3, g⟩ := rv
      exact ⟨_, slots_get.mpr hv, .lst (fun z => z.2 ⟨j, _, q1, q, hv⟩) (.inl e3) (g.mv dn fun _ _ _ z => z)⟩
  own := fun j xs e => by
    have e := envs_get.mp e
    have dn : ∀ a, (B1 a ∧ ¬ DropA ms rs vs a) → B1 a ∨ H1 a = none := fun a z => .inl z.1
    obtain ⟨hm, q⟩ := arg_own h e
    rcases q with q | ⟨i, q, q2⟩
    · obtain ⟨v, hv, rv⟩ := v1.get q
      obtain ⟨a, us, ds, e0, rfl, n, b, no, e3, g⟩ := rv
      cases e0
      refine ⟨a, us, slots_get.mpr hv, ⟨b, fun ⟨j', x', d1, d2, d3⟩ => ?_⟩, e3, g.mv dn fun _ _ _ z => z⟩
      have ej := v1.one q d2 hv d3
      subst ej
      rw [hm] at d1
      cases d1
    · obtain ⟨v, hv, rv⟩ := v1.get q
      obtain ⟨a, e3, rfl, _⟩ := rv
      obtain ⟨a', us, e4, b, e5, g⟩ := x1.rel.own i xs q2
      rw [e3] at e4
      cases e4
      refine ⟨a, us, slots_get.mpr hv, ⟨b, fun ⟨j', x', d1, d2, d3⟩ => ?_⟩, e5, g.mv dn fun _ _ _ z => z⟩
      obtain ⟨v', hv', rv'⟩ := v1.get d2
      rw [d3] at hv'
      cases hv'
      obtain ⟨a2, _, _, _, e6, _, _, no, _⟩ := rv'
      cases e6
      exact no ⟨i, xs, q2, e3⟩
  ro := fun j xs e => by
    have e := envs_get.mp e
    have dn : ∀ a, (B1 a ∧ ¬ DropA ms rs vs a) → B1 a ∨ H1 a = none := fun a z => .inl z.1
    obtain ⟨hm, i, q, q2⟩ := arg_ro h e
    obtain ⟨v, hv, rv⟩ := v1.get q
    obtain ⟨a, e3, rfl, _⟩ := rv
    rcases q2 with q2 | q2
    · obtain ⟨a', us, e4, b, e5, g⟩ := x1.rel.own i xs q2
      rw [e3] at e4
      cases e4
      refine ⟨a, us, slots_get.mpr hv, .inl ⟨fun o => ?_, .inl e5⟩, g.mv dn fun _ _ _ z => z⟩
      obtain ⟨j', f1, f2, f3, ⟨_, f4, f5, f6⟩ | ⟨i', xs', f4, f5, f6⟩⟩ := arg_ownA x1 v1 h o
      · exact f6 ⟨i, xs, q2, e3⟩
      · have ei := x1.rel.dis i i' _ _ _ q2 f5 e3 f6
        subst ei
        have ej := bs_one nd q f4
        subst ej
        rw [hm] at f2
        cases f2
    · have q3 := x1.sl.ro.mp q2
      obtain ⟨a', us, e4, e5, g⟩ := R.ro i xs q3
      rw [e3] at e4
      cases e4
      refine ⟨a, us, slots_get.mpr hv, e5.keep (fun b o => arg_ownA_kept R x1 v1 h o) fun b o n z => x1.keep b o n z, (x1.goodAll R g).mv dn fun _ _ _ z => z⟩
  dis := fun i j xs ys a e1 e2 e3 e4 => by
    have e1 := envs_get.mp e1
    have e2 := envs_get.mp e2
    have e3 := slots_get.mp e3
    have e4 := slots_get.mp e4
    obtain ⟨_, q1⟩ := arg_own h e1
    obtain ⟨_, q2⟩ := arg_own h e2
    rcases q1 with q1 | ⟨i1, q1, p1⟩
    · rcases q2 with q2 | ⟨i2, q2, p2⟩
      · exact v1.one q1 q2 e3 e4
      · obtain ⟨v, hv, rv⟩ := v1.get q1
        rw [e3] at hv
        cases hv
        obtain ⟨_, _, _, _, f, _, _, no, _⟩ := rv
        cases f
        obtain ⟨v, hv, rv⟩ := v1.get q2
        rw [e4] at hv
        cases hv
        obtain ⟨_, f2, f, _⟩ := rv
        cases f
        exact (no ⟨i2, _, p2, f2⟩).elim
    · obtain ⟨v, hv, rv⟩ := v1.get q1
      rw [e3] at hv
      cases hv
      obtain ⟨_, f1, f, _⟩ := rv
      cases f
      rcases q2 with q2 | ⟨i2, q2, p2⟩
      · obtain ⟨v, hv, rv⟩ := v1.get q2
        rw [e4] at hv
        cases hv
        obtain ⟨_, _, _, _, f, _, _, no, _⟩ := rv
        cases f
        exact (no ⟨i1, _, p1, f1⟩).elim
      · obtain ⟨v, hv, rv⟩ := v1.get q2
        rw [e4] at hv
        cases hv
        obtain ⟨_, f2, f, _⟩ := rv
        cases f
        have ei := x1.rel.dis i1 i2 _ _ _ p1 p2 f1 f2
        subst ei
        exact bs_one nd q1 q2
  tr := fun a z => x1.rel.tr a z.1
  len := by
    rw [List.length_map, List.length_map, (argAll_len h).1, v1.len]
/-- behind the call -/
theorem arg_back (R : Rel K B σ H ρ) (x1 : Ext K B σ H ρ B1 H1 ρ1) (v1 : RVp K B1 σ H H1 ρ1 rs vs) (nd : (bs rs).Nodup) (h : argAll ρ1 ms rs = some svs)
    (x2 : Ext K (fun a => B1 a ∧ ¬ DropA ms rs vs a) (slots vs) H1 (envs svs) B2 H2 (envs outs)) : Ext K B σ H ρ B2 H2 (wb ms rs outs ρ1) := by
  -- what every place of the new slots is
  have cl : ∀ i : Nat, ((wb ms rs outs ρ1)[i]? = ρ1[i]? ∧ ∀ (j : Nat), ms[j]? = some true → rs[j]? ≠ some (.b i)) ∨
      ∃ (j : Nat) (xs ys : List PyData), ms[j]? = some true ∧ rs[j]? = some (.b i) ∧ ρ1[i]? = some (some (.own xs)) ∧ svs[j]? = some (.own xs) ∧ outs[j]? = some (.own ys) ∧ (wb ms rs outs ρ1)[i]? = some (some (.own ys)) := by
    intro i
    by_cases ex : ∃ j : Nat, ms[j]? = some true ∧ rs[j]? = some (.b i)
    · obtain ⟨j, e1, e2⟩ := ex
      have lj : j < svs.length := by
        rw [(argAll_len h).1]
        exact (List.getElem?_eq_some_iff.mp e2).1
      obtain ⟨m, r, f1, f2, f3⟩ := argAll_get h (List.getElem?_eq_getElem lj)
      rw [e1] at f1
      rw [e2] at f2
      cases f1
      cases f2
      generalize q0 : svs[j] = sv at f3
      have q0' : svs[j]? = some sv := by rw [List.getElem?_eq_getElem lj, q0]
      cases argS_inv f3 with
      | bo _ xs q =>
        obtain ⟨ys, q4⟩ := (x2.sl.own j).mpr ⟨xs, envs_get.mpr q0'⟩
        have q4 := envs_get.mp q4
        exact .inr ⟨j, xs, ys, e1, e2, q, q0', q4, wb_hit nd e1 e2 q4 (List.getElem?_eq_some_iff.mp q).1⟩
    · exact .inl ⟨wb_miss fun j sv e1 e2 _ => ex ⟨j, e1, e2⟩, fun j e1 e2 => ex ⟨j, e1, e2⟩⟩
  have sl1 : Slots ρ1 (wb ms rs outs ρ1) := fun i => by
    rcases cl i with ⟨e, _⟩ | ⟨j, xs, ys, _, _, e, _, _, e2⟩
    · exact .inl e
    · exact .inr ⟨xs, ys, e, e2⟩
  have kb : ∀ a, B2 a → B1 a ∨ H1 a = none := fun a z => (x2.new a z).elim (fun z => .inl z.1) .inr
  have kh : ∀ a o, ¬ B1 a → H1 a = some o → H2 a = some o := fun a o n e => x2.keep a o (fun z => n (by
    obtain ⟨_, _, _, b, _⟩ := arg_ownA x1 v1 h z
    exact b)) e
  have up : ∀ a, B a → B2 a := fun a z => x2.up a ⟨x1.up a z, fun ⟨j, x, d1, d2, d3⟩ => by
    obtain ⟨v, hv, rv⟩ := v1.get d2
    rw [d3] at hv
    cases hv
    obtain ⟨_, _, _, _, f, n, _⟩ := rv
    cases f
    exact R.tr0 _ z n⟩
  refine ⟨up, fun a z => (kb a z).elim (fun z => x1.new a z) fun z => .inr (x1.none_of R z), ⟨fun i x e => ?_, fun i xs e => ?_, fun i xs e => ?_, fun i j xs ys a e1 e2 e3 e4 => ?_, x2.rel.tr, by rw [wb_len]; exact x1.rel.len⟩, x1.sl.trans sl1, fun a o n e => ?_⟩
  · obtain ⟨v, e1, g⟩ := x1.rel.dat i x (sl1.d.mp e)
    exact ⟨v, e1, g.mv kb kh⟩
  · rcases cl i with ⟨q, q2⟩ | ⟨j, us, ys, f1, f2, f3, f4, f5, f6⟩
    · rw [q] at e
      obtain ⟨a, ws, e1, b, e2, g⟩ := x1.rel.own i xs e
      refine ⟨a, ws, e1, ?_, ?_, g.mv kb kh⟩
      · exact up a (R.ownB ((x1.sl.ownA a).mp ⟨i, xs, e, e1⟩))
      · refine x2.keep a _ (fun z => ?_) e2
        obtain ⟨j, g1, g2, g3, ⟨_, g4, g5, g6⟩ | ⟨i', xs', g4, g5, g6⟩⟩ := arg_ownA x1 v1 h z
        · exact g6 ⟨i, xs, e, e1⟩
        · have ei := x1.rel.dis i i' _ _ _ e g5 e1 g6
          subst ei
          exact q2 j g2 g4
    · rw [f6] at e
      cases e
      obtain ⟨a, ws, e1, b, e2, g⟩ := x2.rel.own j _ (envs_get.mpr f5)
      have e1 := slots_get.mp e1
      obtain ⟨v, hv, rv⟩ := v1.get f2
      rw [e1] at hv
      cases hv
      obtain ⟨_, e3, f, _⟩ := rv
      cases f
      exact ⟨a, ws, e3, b, e2, g⟩
  · have q := sl1.ro.mp e
    have q0 := x1.sl.ro.mp q
    obtain ⟨a, ws, e1, s, g⟩ := R.ro i xs q0
    have s1 : SqR K (OwnA σ ρ) H1 a ws := s.keep (fun _ z => .inl z) fun b o n z => x1.keep b o n z
    refine ⟨a, ws, e1, ?_, (x1.goodAll R g).mv kb kh⟩
    rcases s with ⟨n, r⟩ | s
    · refine .inl ⟨fun z => n (((x1.sl.trans sl1).ownA a).mp z), Rd.keepD (fun o z => x2.keep a o (fun w => ?_) (x1.keep a o n z)) r⟩
      rcases arg_ownA_kept R x1 v1 h w with z | z
      · exact n z
      · exact Rd.someD r z
    · exact .inr s
  · obtain ⟨us, q1⟩ := (sl1.own i).mp ⟨xs, e1⟩
    obtain ⟨ws, q2⟩ := (sl1.own j).mp ⟨ys, e2⟩
    exact x1.rel.dis i j _ _ a q1 q2 e3 e4
  · refine x2.keep a o (fun z => ?_) (x1.keep a o n e)
    rcases arg_ownA_kept R x1 v1 h z with z | z
    · exact n z
    · rw [z] at e
      cases e
theorem cApp_some {np : Nat} {F : FE} {z : Val × Env} (h : cApp np F ms rs ρ1 = some z) : ∃ svs outs, rs.length = np ∧ (bs rs).Nodup ∧ argAll ρ1 ms rs = some svs ∧ F svs = some (z.1, outs) ∧ notB z.1 = true ∧ z.2 = wb ms rs outs ρ1 := by
  unfold cApp at h
  split at h
  · rename_i h3
    simp only [Option.bind_eq_bind, Option.bind_eq_some_iff, Option.pure_def] at h
    obtain ⟨svs, h4, ⟨r, outs⟩, h5, h6⟩ := h
    split at h6
    · rename_i h7
      cases h6
      exact ⟨svs, outs, h3.1, h3.2, h4, h5, h7, rfl⟩
    · cases h6
  · cases h
theorem cCall_some {np : Nat} {F : FE} {cs : CA} {z : Val × Env} (h : cCall np F ms cs ρ = some z) : ∃ rs ρ1, cs ρ = some (rs, ρ1) ∧ cApp np F ms rs ρ1 = some z := by
  unfold cCall at h
  simp only [Option.bind_eq_bind, Option.bind_eq_some_iff] at h
  obtain ⟨⟨rs, ρ1⟩, h1, h2⟩ := h
  exact ⟨rs, ρ1, h1, h2⟩
theorem cCallK_some {np : Nat} {F : FE} {ps ks : List Str} {cs ck : CA} {z : Val × Env} (h : cCallK np F ms ps ks cs ck ρ = some z) : ∃ rs ρ1 zs ρ2, cs ρ = some (rs, ρ1) ∧ ck ρ1 = some (zs, ρ2) ∧ cApp np F ms (putK ps ks (rs.map settle) (zs.map settle)) ρ2 = some z := by
  unfold cCallK at h
  simp only [Option.bind_eq_bind, Option.bind_eq_some_iff] at h
  obtain ⟨⟨rs, ρ1⟩, h1, ⟨zs, ρ2⟩, h2, h3⟩ := h
  exact ⟨rs, ρ1, zs, ρ2, h1, h2, h3⟩
theorem RV.notB {rho rho' : Env} {σ' : L2.St} (h : RV K B' σ H H' rho r v) (nb : notB r = true) (no : ∀ a, H a = none → ¬ OwnA σ' rho' a) : RV K B' σ' H H' rho' r v := by
  cases r with
  | d x => exact h
  | n x =>
    obtain ⟨a, us, ds, e1, e2, n, b, _, q⟩ := h
    exact ⟨a, us, ds, e1, e2, n, b, no a n, q⟩
  | b i => cases nb
/-- a call, behind its arguments -/
theorem call_run {np : Nat} {F : FE} {Q : VK} {B : Addr → Prop} (R : Rel K B σ H ρ) {z : Val × Env} (e : cApp np F ms rs ρ1 = some z) (k : ∀ v B' H', Ext K B σ H ρ B' H' z.2 → RV K B' σ H H' z.2 z.1 v → Q v H') {E : XK}
    (x1 : Ext K B σ H ρ B1 H1 ρ1) (v1 : RVp K B1 σ H H1 ρ1 rs vs) : spD K np F vs H1 Q E := by
  obtain ⟨svs, outs, h2, nd, h4, h5, h6, h7⟩ := cApp_some e
  refine ⟨by rw [v1.len, h2], _, svs, z.1, outs, arg_rel R x1 v1 nd h4, h5, fun v B2 H2 x2 v2 => ?_⟩
  have x3 := arg_back R x1 v1 nd h4 x2
  rw [h7] at k
  refine k v B2 H2 x3 ((v2.early fun _ a n => x1.none_of R n).notB h6 fun a n o => ?_)
  exact R.nown n ((x3.sl.ownA a).mp o)
theorem call_read {np : Nat} {F : FE} {cs : CA} {E : XK} : ∀ (σ : L2.St) (H : Hp) (Q : VK), tE K (cCall np F ms cs) σ H Q → tCall (spD K np F) [] E (tAs K cs) σ H Q := by
  intro σ H Q h
  obtain ⟨B, ρ, z, ρ', R, e, k⟩ := h
  obtain ⟨rs, ρ1, h1, h2⟩ := cCall_some e
  refine ⟨B, ρ, rs, ρ1, R, h1, fun vs B1 H1 x1 v1 => ?_⟩
  show spD K np F (vs ++ []) H1 Q E
  rw [List.append_nil]
  exact call_run R h2 k x1 v1.toP
end
end DL

/-! DL5: how arguments bind, by place and by name; calls with keywords. -/
namespace DL
open PySem PySem.Spec PyProof.Rows L2
/-- a def without defaults and stars -/
structure Simple (fd : FuncData) (ps : List Str) : Prop where
  po : fd.params.posonlyargs = []
  ar : fd.params.args.map (·.arg) = ps
  ko : fd.params.kwonlyargs = []
  va : fd.params.vararg = none
  kw : fd.params.kwarg = none
  df : fd.defaults = .none
/-- n arguments by place, the others by the names ks, each once -/
def kwOk (ps : List Str) (n : Nat) (ks : List Str) : Bool :=
  ks.all (fun k => ps.contains k && !(ps.take n).contains k) && ps.all (fun p => (ps.take n).contains p || ks.contains p) && decide (ks.Nodup) && decide (n ≤ ps.length)
theorem kw_loop {ps : List Str} {f : Str × Value → List (Str × Value) × List (Str × Value) → Sem (ForInStep (List (Str × Value) × List (Str × Value)))}
    (hf : ∀ k v sl ex, ps.contains k = true → (sl.lookup k).isSome = false → f (k, v) (sl, ex) = pure (.yield (sl ++ [(k, v)], ex))) :
    ∀ (l sl ex : List (Str × Value)), (∀ p ∈ l, ps.contains p.1 = true) → (l.map (·.1)).Nodup → (∀ p ∈ l, (sl.lookup p.1).isSome = false) → forIn l (sl, ex) f = pure (sl ++ l, ex)
  | [], sl, ex, _, _, _ => by rw [List.forIn_nil, List.append_nil]
  | (k, v) :: l, sl, ex, h1, h2, h3 => by
    have nd := List.nodup_cons.mp h2
    rw [List.forIn_cons, hf k v sl ex (h1 _ List.mem_cons_self) (h3 _ List.mem_cons_self)]
    have ih := kw_loop hf l (sl ++ [(k, v)]) ex (fun p hp => h1 p (List.mem_cons_of_mem _ hp)) nd.2 fun p hp => by
      have hk : (p.1 == k) = false := beq_eq_false_iff_ne.mpr fun e => nd.1 (by rw [← e]; exact List.mem_map_of_mem (f := (·.1)) hp)
      rw [List.lookup_append]
      have e1 := h3 p (List.mem_cons_of_mem _ hp)
      cases q : sl.lookup p.1 with
      | some z => rw [q] at e1; cases e1
      | none => simp [List.lookup, hk]
    rw [List.append_assoc, List.singleton_append] at ih
    exact ih
theorem zip_look {α : Type} : ∀ {ps : List Str} {us : List α} {k : Str}, ((ps.zip us).lookup k).isSome = (ps.take us.length).contains k
  | [], _, _ => by simp
  | _ :: _, [], _ => by simp
  | p :: ps, u :: us, k => by
    rw [List.zip_cons_cons, List.lookup_cons, List.length_cons, List.take_succ_cons, List.contains_cons, ← zip_look (ps := ps) (us := us)]
    cases k == p <;> simp
theorem filterMap_zip {α : Type} (g : Str → Option α) : ∀ ps : List Str, (∀ p ∈ ps, (g p).isSome = true) → ps.filterMap (fun n => (g n).map (n, ·)) = ps.zip (ps.filterMap g)
  | [], _ => rfl
  | p :: ps, h => by
    have h0 := h p List.mem_cons_self
    cases q : g p with
    | none => rw [q] at h0; cases h0
    | some z =>
      rw [List.filterMap_cons_some (b := (p, z)) (by rw [q]; rfl), List.filterMap_cons_some q, List.zip_cons_cons, filterMap_zip g ps fun p hp => h p (List.mem_cons_of_mem _ hp)]
theorem kwOk_some {α : Type} {ps ks : List Str} {us ws : List α} (h : kwOk ps us.length ks = true) (hl : ws.length = ks.length) : ∀ p ∈ ps, ((ps.zip us ++ ks.zip ws).lookup p).isSome = true := by
  intro p hp
  unfold kwOk at h
  simp only [Bool.and_eq_true, List.all_eq_true] at h
  obtain ⟨⟨⟨_, h2⟩, _⟩, _⟩ := h
  have := h2 p hp
  rw [List.lookup_append]
  have e1 := zip_look (ps := ps) (us := us) (k := p)
  have e2 := zip_look (ps := ks) (us := ws) (k := p)
  rw [hl, List.take_length] at e2
  cases q : (ps.zip us).lookup p with
  | some z => rfl
  | none =>
    rw [q] at e1
    rw [← e1] at this
    simp only [Option.isSome_none, Bool.false_or] at this
    rw [this] at e2
    simpa using e2
theorem bind_kw {fd : FuncData} {ps ks : List Str} {us ws : List Value} (S : Simple fd ps) (h : kwOk ps us.length ks = true) (hl : ws.length = ks.length) : bindArgs fd ⟨us, ks.zip ws⟩ = pure (ps.zip (putK ps ks us ws)) := by
  have hs := kwOk_some (us := us) (ws := ws) h hl
  unfold kwOk at h
  simp only [Bool.and_eq_true, List.all_eq_true, decide_eq_true_eq] at h
  obtain ⟨⟨⟨h1, h2⟩, h3⟩, h4⟩ := h
  unfold bindArgs
  simp only [S.po, S.ar, S.ko, S.va, S.kw, S.df, List.map_nil, List.nil_append, List.append_nil]
  have mk : (ks.zip ws).map (·.1) = ks := by
    rw [List.map_fst_zip]
    omega
  have mem : ∀ p ∈ ks.zip ws, p.1 ∈ ks := fun p hp => by
    rw [← mk]
    exact List.mem_map_of_mem (f := (·.1)) hp
  rw [kw_loop (ps := ps) (fun k v sl ex e1 e2 => ?_) (ks.zip ws) (ps.zip us) [] (fun p hp => (h1 _ (mem p hp)).1) (by rw [mk]; exact h3) fun p hp => ?_]
  · have hsq : seqItems? Value.none = pure none := rfl
    have hgt : ¬ (us.length > ps.length) := by omega
    have hmiss : ps.filter (fun n => (List.lookup n (ps.zip us ++ ks.zip ws)).isNone) = [] := by
      rw [List.filter_eq_nil_iff]
      intro p hp e
      have := hs p hp
      cases q : List.lookup p (ps.zip us ++ ks.zip ws) with
      | none => rw [q] at this; cases this
      | some z => rw [q] at e; cases e
    have hb := filterMap_zip (fun p => (ps.zip us ++ ks.zip ws).lookup p) ps hs
    simp only [hsq, hgt, decide_false, Bool.false_and, Bool.false_eq_true, if_false, pure_bind, bind_pure_comp, map_pure, Option.getD_none, List.drop_nil, List.length_nil, Nat.sub_zero, List.take_length, hmiss, List.isEmpty_nil, Bool.not_true, List.drop_length, List.zip_nil_left, List.forIn_nil, hb]
    first
      | rfl
      | (unfold putK; rfl)
  · simp only [e1, e2, Bool.true_or, if_true, Bool.false_eq_true, if_false]
  · rw [zip_look]
    simpa using (h1 _ (mem p hp)).2
/-- by place alone -/
theorem kwOk_nil {ps : List Str} : kwOk ps ps.length [] = true := by
  unfold kwOk
  simp
theorem filterMap_cong {α β : Type} {f g : α → Option β} : ∀ {l : List α}, (∀ x ∈ l, f x = g x) → l.filterMap f = l.filterMap g
  | [], _ => rfl
  | x :: l, h => by
    rw [List.filterMap_cons, List.filterMap_cons, h x List.mem_cons_self, filterMap_cong fun y hy => h y (List.mem_cons_of_mem _ hy)]
theorem putK_nil {α : Type} : ∀ {ps : List Str} {us : List α}, ps.Nodup → us.length = ps.length → putK ps [] us [] = us
  | [], [], _, _ => rfl
  | [], _ :: _, _, h => by simp at h
  | _ :: _, [], _, h => by simp at h
  | p :: ps, u :: us, nd, h => by
    have nd := List.nodup_cons.mp nd
    have ih := putK_nil (ps := ps) (us := us) nd.2 (by simpa using h)
    unfold putK at ih ⊢
    rw [List.filterMap_cons_some (b := u) (by simp [List.lookup])]
    congr 1
    refine (filterMap_cong fun q hq => ?_).trans ih
    have e : (q == p) = false := beq_eq_false_iff_ne.mpr fun z => nd.1 (by rw [← z]; exact hq)
    simp only [List.zip_cons_cons, List.cons_append, List.lookup_cons, e]
theorem binds_simple {K : PySem.W.Frag} {fd : FuncData} {ps : List Str} (S : Simple fd ps) (nd : ps.Nodup) : Binds K fd ps [] := .all fun us hl => by
  have := bind_kw (us := us) (ws := []) (ks := []) S (by rw [hl]; exact kwOk_nil) rfl
  rw [putK_nil nd hl] at this
  exact this

/-! ### relations place by place -/
section
variable {α β : Type} {R : α → β → Prop}
theorem Paired.zipLook : ∀ {ps : List Str} {us : List α} {vs : List β} {k : Str}, Paired R us vs → (∃ u v, (ps.zip us).lookup k = some u ∧ (ps.zip vs).lookup k = some v ∧ R u v) ∨ ((ps.zip us).lookup k = none ∧ (ps.zip vs).lookup k = none)
  | [], _, _, _, _ => .inr ⟨by simp, by simp⟩
  | _ :: _, _, _, _, .nil => .inr ⟨by simp, by simp⟩
  | p :: ps, u :: us, v :: vs, k, .cons h t => by
    rw [List.zip_cons_cons, List.zip_cons_cons, List.lookup_cons, List.lookup_cons]
    cases k == p with
    | true => exact .inl ⟨u, v, rfl, rfl, h⟩
    | false => exact Paired.zipLook t
theorem Paired.putK {ps ks : List Str} {us zs : List α} {vs ws : List β} (h1 : Paired R us vs) (h2 : Paired R zs ws) : Paired R (putK ps ks us zs) (putK ps ks vs ws) := by
  unfold DL.putK
  have look : ∀ p, (∃ u v, (ps.zip us ++ ks.zip zs).lookup p = some u ∧ (ps.zip vs ++ ks.zip ws).lookup p = some v ∧ R u v) ∨ ((ps.zip us ++ ks.zip zs).lookup p = none ∧ (ps.zip vs ++ ks.zip ws).lookup p = none) := fun p => by
    rw [List.lookup_append, List.lookup_append]
    rcases Paired.zipLook (ps := ps) (k := p) h1 with ⟨u, v, e1, e2, r⟩ | ⟨e1, e2⟩
    · rw [e1, e2]
      exact .inl ⟨u, v, rfl, rfl, r⟩
    · rw [e1, e2]
      simpa using Paired.zipLook (ps := ks) (k := p) h2
  generalize hq : ps = qs at look ⊢
  have hq' : qs = qs := rfl
  clear hq
  revert look
  generalize qs.zip us ++ ks.zip zs = A
  generalize qs.zip vs ++ ks.zip ws = C
  intro look
  clear hq'
  induction qs with
  | nil => exact .nil
  | cons p qs ih =>
    rcases look p with ⟨u, v, e1, e2, r⟩ | ⟨e1, e2⟩
    · rw [List.filterMap_cons, List.filterMap_cons, e1, e2]
      exact .cons r ih
    · rw [List.filterMap_cons, List.filterMap_cons, e1, e2]
      exact ih
theorem Paired.getP : ∀ {us : List α} {vs : List β} {j : Nat} {u : α}, Paired R us vs → us[j]? = some u → ∃ v, vs[j]? = some v ∧ R u v
  | _, _, 0, _, .cons h _, e => by
    cases e
    exact ⟨_, rfl, h⟩
  | _, _, j + 1, _, .cons _ t, e => Paired.getP (j := j) t e
  | _, _, _, _, .nil, e => by simp at e
end

section
variable {K : PySem.W.Frag} {B B' B'' B1 B2 : Addr → Prop} {σ : L2.St} {H H0 H' H'' H1 H2 : Hp} {ρ ρ' ρ'' ρ1 : Env} {r : Val} {v : V} {rs zs : List Val} {vs us : List V} {X : Cx} {ms : List Bool}
/-- settled values: none of them new any more -/
theorem RVs.settled (R : Rel K B σ H ρ) (x : Ext K B σ H ρ B1 H1 ρ1) : ∀ {rs : List Val} {vs : List V}, RVs K B1 σ H H1 ρ1 rs vs → Paired (RV K B σ H H1 ρ1) (rs.map settle) vs
  | _, _, .nil => .nil
  | r :: rs, _, .cons a _ t => by
    refine .cons ?_ (RVs.settled R x t)
    cases r with
    | d y => exact a.good R x rfl
    | n y => exact a.good R x rfl
    | b i => exact a
theorem settle_n {x : PyData} : ∀ {r : Val}, settle r ≠ .n x
  | .d _ => fun e => nomatch e
  | .n _ => fun e => nomatch e
  | .b _ => fun e => nomatch e
theorem putK_mem {α : Type} {ps ks : List Str} {us ws : List α} {z : α} (h : z ∈ putK ps ks us ws) : z ∈ us ∨ z ∈ ws := by
  unfold putK at h
  obtain ⟨p, _, e⟩ := List.mem_filterMap.mp h
  have m := PySem.mem_of_lookup e
  rcases List.mem_append.mp m with m | m
  · exact .inl (List.of_mem_zip m).2
  · exact .inr (List.of_mem_zip m).2
/-- the arguments of a call with keywords, in the parameters' order -/
theorem kw_args {ps ks : List Str} (R : Rel K B σ H ρ) (x1 : Ext K B σ H ρ B1 H1 ρ1) (v1 : RVs K B1 σ H H1 ρ1 rs vs) (x2 : Ext K B1 σ H1 ρ1 B2 H2 ρ') (v2 : RVs K B2 σ H1 H2 ρ' zs us) :
    RVp K B σ H H2 ρ' (putK ps ks (rs.map settle) (zs.map settle)) (putK ps ks vs us) := by
  have x := x1.trans R x2
  have p1 : Paired (RV K B σ H H2 ρ') (rs.map settle) vs := by
    have p := v1.settled R x1
    have xd := x1.dn R
    -- kept by what came behind
    have y : Ext K B σ H1 ρ1 B H2 ρ' := ⟨fun _ h => h, fun _ h => .inl h, (x.dn R).rel, x2.sl, x2.keep⟩
    exact Paired.mapP p fun r v h => h.keep xd.rel y
  have p2 : Paired (RV K B σ H H2 ρ') (zs.map settle) us := by
    have v3 : RVs K B2 σ H H2 ρ' zs us := v2.early fun a n => x1.none_of R n
    exact v3.settled R x
  have p := Paired.putK (ps := ps) (ks := ks) p1 p2
  refine ⟨fun {j r} e => Paired.getP p e, (Paired.length p).symm, fun {i j x y v} e _ _ _ => ?_⟩
  have m := putK_mem (List.mem_of_getElem? e)
  rcases m with m | m
  · obtain ⟨r, _, q⟩ := List.mem_map.mp m
    exact (settle_n q).elim
  · obtain ⟨r, _, q⟩ := List.mem_map.mp m
    exact (settle_n q).elim
structure DKs (X : Cx) (kws : List Keyword) (c : CA) : Prop where
  pk : PK X kws (tAs X.K c)
theorem PK.weak {X : Cx} {e : List Keyword} {t t' : TA} (h : PK X e t) (k : ∀ σ H Q, t' σ H Q → t σ H Q) : PK X e t' := ⟨fun pos pins s σ H Q I w => h.run pos pins s σ H Q I (k σ H Q w)⟩
theorem dks_nil : DKs X [] cNil := by
  refine ⟨PK.weak pk_nil fun σ H Q h => ?_⟩
  obtain ⟨B, ρ, r, ρ', R, e, k⟩ := h
  cases e
  exact k [] B H (.refl R) .nil
theorem dks_cons {nm : Option Str} {kpos : Pos} {e : Expr} {kws : List Keyword} {c : CE} {cs : CA} (ha : DE X e c) (hr : DKs X kws cs) : DKs X (⟨nm, e, kpos⟩ :: kws) (cCons c cs) := by
  refine ⟨PK.weak (pk_cons ha.pe hr.pk) fun σ H Q h => ?_⟩
  obtain ⟨B, ρ, z, ρ', R, e, k⟩ := h
  obtain ⟨r, ρ1, rs, h1, h2, h3⟩ := cCons_some e
  have h3' : z = r :: rs := h3
  subst h3'
  refine ⟨B, ρ, r, ρ1, R, h1, fun v B1 H1 x1 v1 => ⟨B1, ρ1, rs, ρ', x1.rel, h2, fun vs B2 H2 x2 v2 => ?_⟩⟩
  refine k (v :: vs) B2 H2 (x1.trans R x2) (.cons (v1.keep x1.rel x2) (fun x ex => ?_) (v2.early fun a n => x1.none_of R n))
  subst ex
  obtain ⟨a, _, _, _, rfl, _, _, _, q, _⟩ := v1
  exact v2.apart (by rw [q]; exact fun z => nomatch z)
/-- the def runs, its arguments given by place and by name -/
theorem run_kw {k : Nat} {f : Addr} {fd : FuncData} {ps ks : List Str} {sp : Sp} {E : XK} {pins : List (Addr × Obj)} {s : Shared} {Q : VK} {ua wa : List Value} (F : FnG X.prog X.w X.K X.mg X.base k f fd ps sp) (hr : RoomG k X.A) (S : Simple fd ps)
    (I : Inv X pins σ H s) (r : Vals vs ua) (rz : Vals us wa) (ok : kwOk ps vs.length ks = true) (hl : us.length = ks.length) (h : sp (putK ps ks vs us) H Q E) : wpAny (model X.prog X.w) X.A (call (.ref f) ua (ks.zip wa)) (EP X pins σ Q) X.xe s := by
  have r2 : Vals (putK ps ks vs us) (putK ps ks ua wa) := Paired.putK r rz
  have hb : BindsTo s fd ⟨ua, ks.zip wa⟩ (ps.zip (putK ps ks ua wa)) := .of_eq (bind_kw S (by rw [← r.length]; exact ok) (by rw [← rz.length]; exact hl))
  refine wpAny_call (codeAny_mono (F.run X.A X.stack s H ⟨ua, ks.zip wa⟩ (putK ps ks ua wa) (putK ps ks vs us) Q E hr I.env0 hb r2 h) fun r s' hq => ?_)
  cases r with
  | error e => exact (pass0 (X := X) pins σ H s e s' I hq)
  | ok fl =>
    cases fl with
    | ret u => exact I.after hq
    | next => exact False.elim hq
    | brk => exact False.elim hq
    | cont => exact False.elim hq
/-- f(e, ..) -/
theorem de_call {x : Str} {p pos : Pos} {e : Expr} {es : List Expr} {cs : CA} {np k : Nat} {F : FE} {f : Addr} {fd : FuncData} {ps : List Str} (G : FnG X.prog X.w X.K X.mg X.base k f fd ps (spD X.K np F)) (hr : RoomG k X.A) (hg : Gl X x) (hm : X.mg x = some (.ref f)) (hk : PySem.W.keepIn X.K (.ref f) = true) (S : Simple fd ps)
    (nd : ps.Nodup) (ha : DAs X (e :: es) cs) (hdb : (x == ("__debug__" : Str)) = false) (he : starEach (e :: es) X.env = (false, eval e X.env) :: starEach es X.env) (hpl : (backTo pos (starEach es X.env)).any (·.1) = false) :
    DE X (.Call (.Name x p) (e :: es) [] pos) (cCall np F ms cs) := by
  refine ⟨PE.weak (t := tCall (spD X.K np F) [] E0 (tAs X.K cs)) ⟨fun pins s σ H Q I h => ?_⟩ call_read⟩
  refine wpAny_Call_Name_kw (ld_glob I hg hm ?_ hdb)
  refine PySem.W.callWith_K (h₀ := X.base) I.ok.mod.kin hk (thn (ha.pa.run pos pins s σ H _ I h) fun us s1 ⟨vs, H1, I1, r, q⟩ => ⟨I1.kIn, ?_⟩) he hpl
  have q : spD X.K np F (vs ++ []) H1 Q E0 := q
  rw [List.append_nil] at q
  have hl : vs.length = ps.length := G.len _ _ _ _ q
  have q2 : spD X.K np F (putK ps [] vs []) H1 Q E0 := by rw [putK_nil nd hl]; exact q
  exact run_kw (ua := us) (wa := []) (ks := []) G hr S I1 r .nil (by rw [hl]; exact kwOk_nil) rfl q2
/-- f() -/
theorem de_call0 {x : Str} {p pos : Pos} {np k : Nat} {F : FE} {f : Addr} {fd : FuncData} {ps : List Str} (G : FnG X.prog X.w X.K X.mg X.base k f fd ps (spD X.K np F)) (hr : RoomG k X.A) (hg : Gl X x) (hm : X.mg x = some (.ref f)) (hk : PySem.W.keepIn X.K (.ref f) = true) (S : Simple fd ps)
    (nd : ps.Nodup) (hdb : (x == ("__debug__" : Str)) = false) : DE X (.Call (.Name x p) [] [] pos) (cCall np F ms cNil) := by
  refine ⟨PE.weak (t := tCall (spD X.K np F) [] E0 (tAs X.K cNil)) ⟨fun pins s σ H Q I h => ?_⟩ call_read⟩
  refine wpAny_Call_Name_kw (ld_glob I hg hm ?_ hdb)
  refine PySem.W.callWith_K0 I.kIn hk ?_
  obtain ⟨B, ρ, rs, ρ', R, e, kk⟩ := h
  cases e
  have q : spD X.K np F [] H Q E0 := kk [] B H (.refl R) .nil
  have hl : ([] : List V).length = ps.length := G.len _ _ _ _ q
  have q2 : spD X.K np F (putK ps [] [] []) H Q E0 := by rw [putK_nil nd hl]; exact q
  exact run_kw (ua := []) (wa := []) (ks := []) (vs := []) G hr S I .nil .nil (by rw [hl]; exact kwOk_nil) rfl q2
/-- f(k = v, ..) -/
theorem de_callK0 {x : Str} {p pos : Pos} {kws : List Keyword} {ck : CA} {np k : Nat} {F : FE} {f : Addr} {fd : FuncData} {ps ks : List Str} (G : FnG X.prog X.w X.K X.mg X.base k f fd ps (spD X.K np F)) (hr : RoomG k X.A) (hg : Gl X x) (hm : X.mg x = some (.ref f)) (hk : PySem.W.keepIn X.K (.ref f) = true) (S : Simple fd ps)
    (hkw : DKs X kws ck) (ok : kwOk ps 0 ks = true) (hlen : ks.length = kws.length) (hall : (backToKw pos (keywordEach kws X.env)).all (·.1.isSome) = true) (hks : (backToKw pos (keywordEach kws X.env)).filterMap (·.1) = ks)
    (hn : ∀ ρ z, ck ρ = some z → z.1.length = kws.length) (hdb : (x == ("__debug__" : Str)) = false) (hpl : ((backTo pos (starEach [] X.env)).any (·.1) || (backToKw pos (keywordEach kws X.env)).any (·.1.isNone)) = false) :
    DE X (.Call (.Name x p) [] kws pos) (cCallK np F ms ps ks cNil ck) := by
  refine ⟨⟨fun pins s σ H Q I h => ?_⟩⟩
  obtain ⟨B, ρ, z, ρ', R, e, kk⟩ := h
  obtain ⟨rs, ρ1, zs, ρ2, h1, h2, h3⟩ := cCallK_some e
  cases h1
  refine wpAny_Call_Name_kw (ld_glob I hg hm ?_ hdb)
  refine PySem.W.callWith_KW0 (h₀ := X.base) I.ok.mod.kin hk hall (thn (hkw.pk.run pos pins s σ H (fun us H' => spD X.K np F (putK ps ks [] us) H' Q E0 ∧ us.length = ks.length) I ⟨B, ρ, zs, ρ2, R, h2, fun us B2 H2 x2 v2 => ?_⟩) fun wa s2 ⟨us, H2, I2, rz, q, lz⟩ => ⟨I2.kIn, ?_⟩) hpl
  · have a := kw_args (ps := ps) (ks := ks) R (.refl R) (.nil : RVs X.K B σ H H ρ [] []) x2 v2
    refine ⟨call_run R h3 kk ((Ext.trans R (.refl R) x2).dn R) a, ?_⟩
    rw [v2.len, hn _ _ h2, hlen]
  · rw [hks]
    exact run_kw (ua := []) (vs := []) G hr S I2 .nil rz ok lz q
/-- f(e, .., k = v, ..) -/
theorem de_callK {x : Str} {p pos : Pos} {e : Expr} {es : List Expr} {kws : List Keyword} {cs ck : CA} {np k n : Nat} {F : FE} {f : Addr} {fd : FuncData} {ps ks : List Str} (G : FnG X.prog X.w X.K X.mg X.base k f fd ps (spD X.K np F)) (hr : RoomG k X.A) (hg : Gl X x) (hm : X.mg x = some (.ref f)) (hk : PySem.W.keepIn X.K (.ref f) = true) (S : Simple fd ps)
    (ha : DAs X (e :: es) cs) (hkw : DKs X kws ck) (ok : kwOk ps (e :: es).length ks = true) (hlen : ks.length = kws.length) (hall : (backToKw pos (keywordEach kws X.env)).all (·.1.isSome) = true) (hks : (backToKw pos (keywordEach kws X.env)).filterMap (·.1) = ks)
    (hna : ∀ ρ z, cs ρ = some z → z.1.length = (e :: es).length) (hn : ∀ ρ z, ck ρ = some z → z.1.length = kws.length) (hdb : (x == ("__debug__" : Str)) = false) (he : starEach (e :: es) X.env = (false, eval e X.env) :: starEach es X.env)
    (hpl : ((backTo pos (starEach (e :: es) X.env)).any (·.1) || (backToKw pos (keywordEach kws X.env)).any (·.1.isNone)) = false) :
    DE X (.Call (.Name x p) (e :: es) kws pos) (cCallK np F ms ps ks cs ck) := by
  refine ⟨⟨fun pins s σ H Q I h => ?_⟩⟩
  obtain ⟨B, ρ, z, ρ', R, e, kk⟩ := h
  obtain ⟨rs, ρ1, zs, ρ2, h1, h2, h3⟩ := cCallK_some e
  refine wpAny_Call_Name_kw (ld_glob I hg hm ?_ hdb)
  refine PySem.W.callWith_KW (h₀ := X.base) I.ok.mod.kin hk hall (thn (ha.pa.run pos pins s σ H (fun vs H1 => vs.length = rs.length ∧ tAs X.K ck σ H1 fun us H' => spD X.K np F (putK ps ks vs us) H' Q E0 ∧ us.length = ks.length) I ⟨B, ρ, rs, ρ1, R, h1, fun vs B1 H1 x1 v1 => ⟨v1.len, B1, ρ1, zs, ρ2, x1.rel, h2, fun us B2 H2 x2 v2 => ?_⟩⟩) fun va s1 ⟨vs, H1, I1, rv, lv, q1⟩ => thn (hkw.pk.run pos pins s1 σ H1 _ I1 q1) fun wa s2 ⟨us, H2, I2, rz, q, lz⟩ => ⟨I2.kIn, ?_⟩) hpl he
  · have a := kw_args (ps := ps) (ks := ks) R x1 v1 x2 v2
    refine ⟨call_run R h3 kk ((Ext.trans R x1 x2).dn R) a, ?_⟩
    rw [v2.len, hn _ _ h2, hlen]
  · rw [hks]
    exact run_kw (ua := va) (vs := vs) G hr S I2 rv rz (by rw [lv, hna _ _ h1]; exact ok) lz q
end
end DL

/-! DL6: what a loop or a comprehension walks. -/
namespace DL
open PySem PySem.Spec PyProof.Rows L2
open RZ (ItzT iZipA pi_zipA)
/-- a slot's own list is lent while it is walked -/
def lend (ρ : Env) : Val → Env
  | .b i => match ρ[i]? with
    | some (some (.own xs)) => ρ.set i (some (.ro xs))
    | _ => ρ
  | _ => ρ
/-- .. and given back -/
def unlend (ρ0 ρ2 : Env) : Val → Option Env
  | .b i => match ρ0[i]? with
    | some (some (.own xs)) => match ρ2[i]? with
      | some (some (.ro _)) => some (ρ2.set i (some (.own xs)))
      | _ => none
    | _ => some ρ2
  | _ => some ρ2
/-- J yields the data ds, item by item, as long as nothing but what stands at W is written -/
def Feeds (K : PySem.W.Frag) (J : It) (W B : Addr → Prop) (H : Hp) (ds : List PyData) : Prop :=
  ∀ (i : Nat) (H2 : Hp), (∀ a o, ¬ W a → H a = some o → H2 a = some o) →
    (i = ds.length → J.stop i H2) ∧
    ∀ d, ds[i]? = some d → J.go i H2 ∧ ∀ x H3, J.yld i H2 x H3 → Same H2 H3 ∧
      ∀ B2 : Addr → Prop, (∀ a, B2 a → B a ∨ H a = none) → (∀ a, B2 a → H2 a ≠ none) → Good K B2 H3 x d
abbrev CI := Env → Option (List PyData × Env × Val)
def tI (K : PySem.W.Frag) (ci : CI) : TI := fun σ H R => ∃ B ρ ds ρ' r, Rel K B σ H ρ ∧ ci ρ = some (ds, ρ', r) ∧
  ∀ J B' H', Ext K B σ H ρ B' H' ρ' → Feeds K J (OwnA σ (lend ρ' r)) B' H' ds → R J H'
structure DI (X : Cx) (tg iter : Expr) (ci : CI) : Prop where
  pi : PI X tg iter (tI X.K ci)
theorem PI.weak {X : Cx} {tg e : Expr} {t t' : TI} (h : PI X tg e t) (k : ∀ σ H Q, t' σ H Q → t σ H Q) : PI X tg e t' := ⟨fun pins s σ H R I w => h.run pins s σ H R I (k σ H R w)⟩
section
variable {K : PySem.W.Frag} {B B' B'' B1 B2 W : Addr → Prop} {σ : L2.St} {H H0 H' H'' H1 H2 : Hp} {ρ ρ' ρ'' ρ1 ρ2 ρ3 : Env} {r : Val} {v : V} {vs us : List V} {X : Cx} {a b : Addr} {ds es : List PyData}
theorem feed_item (g : GoodAll K B H vs ds) {i : Nat} {d : PyData} {x : V} (e : ds[i]? = some d) (q : vs[i]? = some x) (kh : ∀ a o, ¬ W a → H a = some o → H2 a = some o) (wb : ∀ a, W a → B a) (kb : ∀ a, B2 a → B a ∨ H a = none) : Good K B2 H2 x d := by
  obtain ⟨v, e1, g1⟩ := g.get e
  rw [e1] at q
  cases q
  exact g1.mv kb fun a o n z => kh a o (fun w => n (wb a w)) z
theorem feeds_list (s : SqR K W H a vs) (g : GoodAll K B H vs ds) (wb : ∀ a, W a → B a) : Feeds K (Itl K a) W B H ds := by
  intro i H2 kh
  have s2 : SqL K H2 a vs := (s.keep (fun _ z => .inl z) kh).sql
  refine ⟨fun e => ⟨vs, s2, by rw [g.len]; omega⟩, fun d e => ?_⟩
  obtain ⟨v, e1, _⟩ := g.get e
  refine ⟨⟨vs, v, s2, e1⟩, fun x H3 y => ?_⟩
  obtain ⟨rfl, y⟩ := y
  exact ⟨Same.refl _, fun B2 kb _ => feed_item g e (y vs s2) kh wb kb⟩
/-- a tuple that is read, at none of the addresses that are written -/
def SqRT (K : PySem.W.Frag) (W : Addr → Prop) (H : Hp) (a : Addr) (xs : List V) : Prop := (¬ W a ∧ Rd H a (.tup xs)) ∨ KTup K a xs
theorem SqRT.sqt (s : SqRT K W H a vs) (kh : ∀ a o, ¬ W a → H a = some o → H2 a = some o) : SqT K H2 a vs := by
  rcases s with ⟨n, r⟩ | s
  · exact .inl (Rd.keepD (fun o e => kh a o n e) r)
  · exact .inr s
theorem feeds_tup (s : SqRT K W H a vs) (g : GoodAll K B H vs ds) (wb : ∀ a, W a → B a) : Feeds K (Itt K a) W B H ds := by
  intro i H2 kh
  have s2 : SqT K H2 a vs := s.sqt kh
  refine ⟨fun e => ⟨vs, s2, by rw [g.len]; omega⟩, fun d e => ?_⟩
  obtain ⟨v, e1, _⟩ := g.get e
  refine ⟨⟨vs, v, s2, e1⟩, fun x H3 y => ?_⟩
  obtain ⟨rfl, y⟩ := y
  exact ⟨Same.refl _, fun B2 kb _ => feed_item g e (y vs s2) kh wb kb⟩
/-- the numbers from lo on, n of them -/
def numsD (lo : Int) (n : Nat) : List PyData := (List.range n).map fun (i : Nat) => .int (lo + i)
theorem numsD_len (lo : Int) (n : Nat) : (numsD lo n).length = n := by simp [numsD]
theorem numsD_get {lo : Int} {n i : Nat} {d : PyData} (e : (numsD lo n)[i]? = some d) : i < n ∧ d = .int (lo + i) := by
  unfold numsD at e
  rw [List.getElem?_map] at e
  by_cases h : i < n
  · rw [List.getElem?_range h] at e
    exact ⟨h, (Option.some.inj e).symm⟩
  · rw [List.getElem?_eq_none (by simpa using h)] at e
    cases e
theorem feeds_range {lo : Int} {n : Nat} : Feeds K (Itr lo n) W B H (numsD lo n) := by
  intro i H2 kh
  refine ⟨fun e => by rw [numsD_len] at e; exact Nat.le_of_eq e.symm, fun d e => ?_⟩
  obtain ⟨h, rfl⟩ := numsD_get e
  refine ⟨h, fun x H3 y => ?_⟩
  obtain ⟨rfl, rfl⟩ := y
  exact ⟨Same.refl _, fun _ _ _ => .int _⟩
def pairsD : List PyData → List PyData → List PyData
  | d :: ds, e :: es => .tuple [d, e] :: pairsD ds es
  | _, _ => []
theorem pairsD_len : ∀ (ds es : List PyData), (pairsD ds es).length = min ds.length es.length
  | [], _ => by simp [pairsD]
  | _ :: _, [] => by simp [pairsD]
  | d :: ds, e :: es => by
    rw [pairsD, List.length_cons, pairsD_len ds es, List.length_cons, List.length_cons]
    omega
theorem pairsD_get : ∀ {ds es : List PyData} {i : Nat} {z : PyData}, (pairsD ds es)[i]? = some z → ∃ d e, ds[i]? = some d ∧ es[i]? = some e ∧ z = .tuple [d, e]
  | [], _, _, _, h => by simp [pairsD] at h
  | _ :: _, [], _, _, h => by simp [pairsD] at h
  | d :: ds, e :: es, 0, z, h => ⟨d, e, rfl, rfl, (Option.some.inj h).symm⟩
  | d :: ds, e :: es, i + 1, z, h => pairsD_get (ds := ds) (es := es) (i := i) h
theorem good_pair {T : Addr} {x y : V} {d e : PyData} (n : H2 T = none) (tr : ∀ a, B2 a → H2 a ≠ none) (g1 : Good K B2 H2 x d) (g2 : Good K B2 H2 y e) : Good K B2 (upd H2 T (.tup [x, y])) (.ref T) (.tuple [d, e]) :=
  Good.tup (fun z => tr _ z n) (.inl upd_same) (.cons (g1.same (same_updD n)) (.cons (g2.same (same_updD n)) .nil))
theorem feeds_zip (s : SqR K W H a vs) (s' : SqR K W H b us) (g : GoodAll K B H vs ds) (g' : GoodAll K B H us es) (wb : ∀ a, W a → B a) : Feeds K (Itz K a b) W B H (pairsD ds es) := by
  intro i H2 kh
  have s2 : SqL K H2 a vs := (s.keep (fun _ z => .inl z) kh).sql
  have s3 : SqL K H2 b us := (s'.keep (fun _ z => .inl z) kh).sql
  refine ⟨fun e => ⟨vs, us, s2, s3, ?_⟩, fun z e => ?_⟩
  · rw [pairsD_len] at e
    rw [g.len, g'.len]
    omega
  · obtain ⟨d, d', e1, e2, rfl⟩ := pairsD_get e
    obtain ⟨x, q1, _⟩ := g.get e1
    obtain ⟨y, q2, _⟩ := g'.get e2
    refine ⟨⟨vs, us, x, y, s2, s3, q1, q2⟩, fun w H3 yl => ?_⟩
    obtain ⟨T, x', y', rfl, n, rfl, k1, k2⟩ := yl
    refine ⟨same_updD n, fun B2 kb tr => good_pair n tr (feed_item g e1 (k1 vs s2) kh wb kb) (feed_item g' e2 (k2 us s3) kh wb kb)⟩
theorem feeds_zipT (s : SqRT K W H a vs) (s' : SqRT K W H b us) (g : GoodAll K B H vs ds) (g' : GoodAll K B H us es) (wb : ∀ a, W a → B a) : Feeds K (ItzT K a b) W B H (pairsD ds es) := by
  intro i H2 kh
  have s2 : SqT K H2 a vs := s.sqt kh
  have s3 : SqT K H2 b us := s'.sqt kh
  refine ⟨fun e => ⟨vs, us, s2, s3, ?_⟩, fun z e => ?_⟩
  · rw [pairsD_len] at e
    rw [g.len, g'.len]
    omega
  · obtain ⟨d, d', e1, e2, rfl⟩ := pairsD_get e
    obtain ⟨x, q1, _⟩ := g.get e1
    obtain ⟨y, q2, _⟩ := g'.get e2
    refine ⟨⟨vs, us, x, y, s2, s3, q1, q2⟩, fun w H3 yl => ?_⟩
    obtain ⟨T, x', y', rfl, n, rfl, k1, k2⟩ := yl
    refine ⟨same_updD n, fun B2 kb tr => good_pair n tr (feed_item g e1 (k1 vs s2) kh wb kb) (feed_item g' e2 (k2 us s3) kh wb kb)⟩
def enumD : Nat → List PyData → List PyData
  | _, [] => []
  | n, d :: ds => .tuple [.int (n : Int), d] :: enumD (n + 1) ds
theorem enumD_len : ∀ (n : Nat) (ds : List PyData), (enumD n ds).length = ds.length
  | _, [] => rfl
  | n, d :: ds => by rw [enumD, List.length_cons, List.length_cons, enumD_len (n + 1) ds]
theorem enumD_get : ∀ {n : Nat} {ds : List PyData} {i : Nat} {z : PyData}, (enumD n ds)[i]? = some z → ∃ d, ds[i]? = some d ∧ z = .tuple [.int ((n + i : Nat) : Int), d]
  | _, [], _, _, h => by simp [enumD] at h
  | n, d :: ds, 0, z, h => ⟨d, rfl, (Option.some.inj h).symm⟩
  | n, d :: ds, i + 1, z, h => by
    obtain ⟨d', e1, e2⟩ := enumD_get (n := n + 1) (ds := ds) (i := i) h
    exact ⟨d', e1, by rw [e2, show n + 1 + i = n + (i + 1) by omega]⟩
theorem feeds_enum (s : SqR K W H a vs) (g : GoodAll K B H vs ds) (wb : ∀ a, W a → B a) : Feeds K (Ite K a) W B H (enumD 0 ds) := by
  intro i H2 kh
  have s2 : SqL K H2 a vs := (s.keep (fun _ z => .inl z) kh).sql
  refine ⟨fun e => ⟨vs, s2, by rw [enumD_len] at e; rw [g.len]; omega⟩, fun z e => ?_⟩
  obtain ⟨d, e1, rfl⟩ := enumD_get e
  obtain ⟨x, q1, _⟩ := g.get e1
  refine ⟨⟨vs, x, s2, q1⟩, fun w H3 yl => ?_⟩
  obtain ⟨T, x', rfl, n, rfl, k1⟩ := yl
  refine ⟨same_updD n, fun B2 kb tr => ?_⟩
  rw [Nat.zero_add]
  exact good_pair n tr (.int _) (feed_item g e1 (k1 vs s2) kh wb kb)

/-! ### lending -/
theorem lend_own {ρ : Env} {r : Val} {i : Nat} {xs : List PyData} (e : (lend ρ r)[i]? = some (some (.own xs))) : ρ[i]? = some (some (.own xs)) ∧ r ≠ .b i := by
  cases r with
  | d x => exact ⟨e, fun z => nomatch z⟩
  | n x => exact ⟨e, fun z => nomatch z⟩
  | b j =>
    unfold lend at e
    dsimp only at e
    split at e
    · rename_i ys q
      by_cases h : j = i
      · subst h
        rw [List.getElem?_set_self (List.getElem?_eq_some_iff.mp q).1] at e
        cases e
      · rw [List.getElem?_set_ne h] at e
        exact ⟨e, fun z => h (Val.b.inj z)⟩
    · rename_i q
      refine ⟨e, fun z => ?_⟩
      cases z
      exact q xs e
theorem lend_ownA {a : Addr} (o : OwnA σ (lend ρ r) a) : OwnA σ ρ a := by
  obtain ⟨i, xs, e1, e2⟩ := o
  exact ⟨i, xs, (lend_own e1).1, e2⟩
theorem lend_len {ρ : Env} {r : Val} : (lend ρ r).length = ρ.length := by
  cases r with
  | d x => rfl
  | n x => rfl
  | b j =>
    unfold lend
    dsimp only
    split
    · rw [List.length_set]
    · rfl
theorem Rel.lend (R : Rel K B σ H ρ) (r : Val) : Rel K B σ H (lend ρ r) := by
  cases r with
  | d x => exact R
  | n x => exact R
  | b j =>
    cases q : ρ[j]? with
    | none =>
      have e : DL.lend ρ (.b j) = ρ := by unfold DL.lend; dsimp only; rw [q]
      rw [e]
      exact R
    | some z =>
      cases z with
      | none =>
        have e : DL.lend ρ (.b j) = ρ := by unfold DL.lend; dsimp only; rw [q]
        rw [e]
        exact R
      | some sv =>
        cases sv with
        | d x =>
          have e : DL.lend ρ (.b j) = ρ := by unfold DL.lend; dsimp only; rw [q]
          rw [e]
          exact R
        | ro x =>
          have e : DL.lend ρ (.b j) = ρ := by unfold DL.lend; dsimp only; rw [q]
          rw [e]
          exact R
        | own xs =>
          have e : DL.lend ρ (.b j) = ρ.set j (some (.ro xs)) := by unfold DL.lend; dsimp only; rw [q]
          have hj : j < ρ.length := (List.getElem?_eq_some_iff.mp q).1
          obtain ⟨a, vs, e1, b, e2, g⟩ := R.own j xs q
          refine ⟨fun i x h => ?_, fun i ys h => ?_, fun i ys h => ?_, fun i k xs' ys a' h1 h2 => R.dis i k xs' ys a' (lend_own h1).1 (lend_own h2).1, R.tr, by rw [lend_len]; exact R.len⟩
          · rw [e] at h
            by_cases z : j = i
            · subst z
              rw [List.getElem?_set_self hj] at h
              cases h
            · rw [List.getElem?_set_ne z] at h
              exact R.dat i x h
          · exact R.own i ys (lend_own h).1
          · by_cases z : j = i
            · subst z
              rw [e, List.getElem?_set_self hj] at h
              cases h
              refine ⟨a, vs, e1, .inl ⟨fun o => ?_, .inl e2⟩, g⟩
              obtain ⟨i', ws, o1, o2⟩ := o
              obtain ⟨o3, o4⟩ := lend_own o1
              have := R.dis j i' _ _ _ q o3 e1 o2
              exact o4 (by rw [this])
            · rw [e, List.getElem?_set_ne z] at h
              obtain ⟨a', ws, e3, s, g'⟩ := R.ro i ys h
              refine ⟨a', ws, e3, ?_, g'⟩
              rcases s with ⟨n, r⟩ | s
              · exact .inl ⟨fun o => n (lend_ownA o), r⟩
              · exact .inr s
/-- what a list's slot is, once it is lent: its list stands at an address that is not written -/
theorem Ext.unlend (R : Rel K B σ H ρ) (x : Ext K B σ H (lend ρ r) B' H' ρ2) (e : unlend ρ ρ2 r = some ρ3) : Ext K B σ H ρ B' H' ρ3 := by
  cases r with
  | d y =>
    cases e
    exact x
  | n y =>
    cases e
    exact x
  | b j =>
    unfold DL.unlend at e
    dsimp only at e
    split at e
    · rename_i xs q
      split at e
      · rename_i ys q2
        cases e
        have hj : j < ρ.length := (List.getElem?_eq_some_iff.mp q).1
        have el : lend ρ (.b j) = ρ.set j (some (.ro xs)) := by unfold lend; dsimp only; rw [q]
        have hj2 : j < ρ2.length := (List.getElem?_eq_some_iff.mp q2).1
        obtain ⟨a, vs, e1, b, e2, g⟩ := R.own j xs q
        have nl : ¬ OwnA σ (lend ρ (.b j)) a := fun o => by
          obtain ⟨i', ws, o1, o2⟩ := o
          obtain ⟨o3, o4⟩ := lend_own o1
          exact o4 (by rw [R.dis j i' _ _ _ q o3 e1 o2])
        have e2' : H' a = some (.lst vs) := x.keep a _ nl e2
        have g' : GoodAll K B' H' vs xs := x.goodAll (R.lend _) g
        have own3 : ∀ {i : Nat} {ws : List PyData}, (ρ2.set j (some (.own xs)))[i]? = some (some (.own ws)) → (i = j ∧ ws = xs) ∨ (i ≠ j ∧ ρ2[i]? = some (some (.own ws))) := fun {i ws} h => by
          by_cases z : j = i
          · subst z
            rw [List.getElem?_set_self hj2] at h
            cases h
            exact .inl ⟨rfl, rfl⟩
          · rw [List.getElem?_set_ne z] at h
            exact .inr ⟨fun w => z w.symm, h⟩
        have nl2 : ∀ {i : Nat} {ws : List PyData}, ρ2[i]? = some (some (.own ws)) → σ[i]? ≠ some (some (.ref a)) := fun {i ws} h z => nl ((x.sl.ownA a).mp ⟨i, ws, h, z⟩)
        have ownA3 : ∀ c, OwnA σ (ρ2.set j (some (.own xs))) c → c = a ∨ OwnA σ ρ2 c := fun c ⟨i, ws, h1, h2⟩ => by
          rcases own3 h1 with ⟨rfl, _⟩ | ⟨_, h⟩
          · rw [e1] at h2
            cases h2
            exact .inl rfl
          · exact .inr ⟨i, ws, h, h2⟩
        refine ⟨x.up, x.new, ⟨fun i y h => ?_, fun i ws h => ?_, fun i ws h => ?_, fun i k us ws c h1 h2 h3 h4 => ?_, x.rel.tr, by rw [List.length_set]; exact x.rel.len⟩, fun i => ?_, fun c o n z => x.keep c o (fun w => n (lend_ownA w)) z⟩
        · by_cases z : j = i
          · subst z
            rw [List.getElem?_set_self hj2] at h
            cases h
          · rw [List.getElem?_set_ne z] at h
            exact x.rel.dat i y h
        · rcases own3 h with ⟨rfl, rfl⟩ | ⟨_, h⟩
          · exact ⟨a, vs, e1, x.up a b, e2', g'⟩
          · exact x.rel.own i ws h
        · have z : j ≠ i := fun z => by
            subst z
            rw [List.getElem?_set_self hj2] at h
            cases h
          rw [List.getElem?_set_ne z] at h
          -- it was lent ahead already
          have h0 : ρ[i]? = some (some (.ro ws)) := by
            have := x.sl.ro.mp h
            rw [el, List.getElem?_set_ne z] at this
            exact this
          obtain ⟨c, us, e3, s, gg⟩ := R.ro i ws h0
          refine ⟨c, us, e3, ?_, x.goodAll (R.lend _) gg⟩
          rcases s with ⟨n, r⟩ | s
          · refine .inl ⟨fun o => ?_, Rd.keepD (fun o w => x.keep c o (fun w => n (lend_ownA w)) w) r⟩
            rcases ownA3 c o with rfl | o
            · exact n ⟨j, xs, q, e1⟩
            · exact n (lend_ownA ((x.sl.ownA c).mp o))
          · exact .inr s
        · rcases own3 h1 with ⟨p1, _⟩ | ⟨_, p1⟩
          · rcases own3 h2 with ⟨p2, _⟩ | ⟨_, p2⟩
            · rw [p1, p2]
            · rw [p1, e1] at h3
              cases h3
              exact (nl2 p2 h4).elim
          · rcases own3 h2 with ⟨p2, _⟩ | ⟨_, p2⟩
            · rw [p2, e1] at h4
              cases h4
              exact (nl2 p1 h3).elim
            · exact x.rel.dis i k us ws c p1 p2 h3 h4
        · by_cases z : j = i
          · subst z
            exact .inr ⟨xs, xs, q, List.getElem?_set_self hj2⟩
          · rw [List.getElem?_set_ne z]
            have := x.sl i
            rw [el, List.getElem?_set_ne z] at this
            exact this
      · cases e
    · rename_i q
      cases e
      have el : lend ρ (.b j) = ρ := by
        unfold lend
        dsimp only
        split
        · rename_i xs q'
          exact (q xs q').elim
        · rfl
      rw [el] at x
      exact x
/-! ### the iterables -/
def cSeq (c : CE) : CI := fun ρ => do
  let (r, ρ1) ← c ρ
  match ← dat ρ1 r with
  | .list ds => some (ds, ρ1, r)
  | .tuple ds => some (ds, ρ1, .d .none)
  | _ => none
/-- a list that is to be walked stands where nothing is written -/
theorem RV.walk (R : Rel K B' σ H' ρ1) (h : RV K B' σ H H' ρ1 r v) (e : dat ρ1 r = some (.list ds)) : ∃ a vs, v = .ref a ∧ SqR K (OwnA σ (lend ρ1 r)) H' a vs ∧ GoodAll K B' H' vs ds := by
  cases r with
  | d x =>
    cases e
    cases h with
    | lst nb q g => exact ⟨_, _, rfl, .inl ⟨fun o => nb (R.ownB (lend_ownA o)), q⟩, g⟩
    | lstK k g => exact ⟨_, _, rfl, .inr k, g⟩
  | n x =>
    cases e
    obtain ⟨a, vs, ds', e1, rfl, _, _, no, q, g⟩ := h
    cases e1
    exact ⟨a, vs, rfl, .inl ⟨fun o => no (lend_ownA o), .inl q⟩, g⟩
  | b i =>
    obtain ⟨a, e1, rfl, h⟩ := h
    have e' : slotD ρ1[i]? = some (.list ds) := e
    have el : (lend ρ1 (.b i))[i]? = some (some (.ro ds)) := by
      rcases h with ⟨xs, q⟩ | ⟨xs, q⟩
      · rw [q] at e'
        cases e'
        unfold lend
        dsimp only
        rw [q]
        exact List.getElem?_set_self (List.getElem?_eq_some_iff.mp q).1
      · rw [q] at e'
        cases e'
        unfold lend
        dsimp only
        rw [q]
        exact q
    obtain ⟨a', vs, e2, s, g⟩ := (R.lend (.b i)).ro i ds el
    rw [e1] at e2
    cases e2
    exact ⟨a, vs, rfl, s, g⟩
theorem RV.walkT (R : Rel K B' σ H' ρ1) (h : RV K B' σ H H' ρ1 r v) (e : dat ρ1 r = some (.tuple ds)) : ∃ a vs, v = .ref a ∧ SqRT K (OwnA σ ρ1) H' a vs ∧ GoodAll K B' H' vs ds := by
  cases r with
  | d x =>
    cases e
    cases h with
    | tup nb q g => exact ⟨_, _, rfl, .inl ⟨fun o => nb (R.ownB o), q⟩, g⟩
    | tupK k g => exact ⟨_, _, rfl, .inr k, g⟩
  | n x =>
    cases e
    obtain ⟨a, vs, ds', e1, _⟩ := h
    cases e1
  | b i =>
    have e' : slotD ρ1[i]? = some (.tuple ds) := e
    unfold slotD at e'
    obtain ⟨a, e1, rfl, h⟩ := h
    rcases h with ⟨xs, q⟩ | ⟨xs, q⟩ <;> (rw [q] at e'; cases e')
theorem cSeq_some {c : CE} {z : List PyData × Env × Val} (h : cSeq c ρ = some z) : ∃ r, c ρ = some (r, z.2.1) ∧ ((dat z.2.1 r = some (.list z.1) ∧ z.2.2 = r) ∨ (dat z.2.1 r = some (.tuple z.1) ∧ z.2.2 = .d .none)) := by
  unfold cSeq at h
  simp only [Option.bind_eq_bind, Option.bind_eq_some_iff] at h
  obtain ⟨⟨r, ρ1⟩, h1, x, h2, h3⟩ := h
  cases x with
  | list ds => cases h3; exact ⟨r, h1, .inl ⟨h2, rfl⟩⟩
  | tuple ds => cases h3; exact ⟨r, h1, .inr ⟨h2, rfl⟩⟩
  | _ => cases h3
theorem di_seq {tg e : Expr} {c : CE} (h : DE X e c) : DI X tg e (cSeq c) := by
  refine ⟨⟨fun pins s σ H R I w => ?_⟩⟩
  obtain ⟨B, ρ, ds, ρ', r0, R0, e0, k⟩ := w
  obtain ⟨r, h1, ⟨h2, h3⟩ | ⟨h2, h3⟩⟩ := cSeq_some e0
  · have h3' : r0 = r := h3
    subst h3'
    refine (pi_list (tg := tg) h.pe).run pins s σ H R I ⟨B, ρ, r0, ρ', R0, h1, fun v B1 H1 x1 v1 => ?_⟩
    obtain ⟨a, vs, rfl, sq, g⟩ := v1.walk x1.rel h2
    exact ⟨a, rfl, ⟨vs, sq.sql⟩, k _ B1 H1 x1 (feeds_list sq g fun a o => x1.rel.ownB (lend_ownA o))⟩
  · have h3' : r0 = .d .none := h3
    subst h3'
    refine (pi_tup (tg := tg) h.pe).run pins s σ H R I ⟨B, ρ, r, ρ', R0, h1, fun v B1 H1 x1 v1 => ?_⟩
    obtain ⟨a, vs, rfl, sq, g⟩ := v1.walkT x1.rel h2
    exact ⟨a, rfl, ⟨vs, sq.sqt fun _ _ _ z => z⟩, k _ B1 H1 x1 (feeds_tup sq g fun a o => x1.rel.ownB o)⟩
/-- range(n), range(m, n) -/
def cRng (cs : CA) : CI := fun ρ => do
  let (rs, ρ1) ← cs ρ
  match ← datAll ρ1 rs with
  | [.int n] => if -(2 ^ 62) ≤ n ∧ n < 2 ^ 62 then some (numsD 0 n.toNat, ρ1, .d .none) else none
  | [.int m, .int n] => if -(2 ^ 62) ≤ m ∧ m < 2 ^ 62 ∧ -(2 ^ 62) ≤ n ∧ n < 2 ^ 62 then some (numsD m (n - m).toNat, ρ1, .d .none) else none
  | _ => none
theorem reads_int1 {n : Int} (h : Reads' K B H vs [.int n]) : vs = [.int n] := by
  cases h with
  | cons a t => cases t; rw [a.int]
theorem reads_int2 {m n : Int} (h : Reads' K B H vs [.int m, .int n]) : vs = [.int m, .int n] := by
  cases h with
  | cons a t =>
    cases t with
    | cons b t => cases t; rw [a.int, b.int]
theorem di_rng1 {tg e : Expr} {cs : CA} {p pos : Pos} (hg : Gl X "range") (hm : X.mg "range" = none) (ha : DAs X [e] cs) (hl : ∀ ρ z, cs ρ = some z → z.1.length = 1) (hs : starEach [e] X.env = [(false, eval e X.env)]) : DI X tg (.Call (.Name "range" p) [e] [] pos) (cRng cs) := by
  refine ⟨PI.weak (pi_range1 hg hm ha.pa hs) fun σ H R w => ?_⟩
  obtain ⟨B, ρ, ds, ρ', r0, R0, e0, k⟩ := w
  unfold cRng at e0
  simp only [Option.bind_eq_bind, Option.bind_eq_some_iff] at e0
  obtain ⟨⟨rs, ρ1⟩, h1, xs, h2, h3⟩ := e0
  refine ⟨B, ρ, rs, ρ1, R0, h1, fun vs B1 H1 x1 v1 => ?_⟩
  split at h3
  · split at h3
    · rename_i n hn
      cases h3
      exact ⟨n, reads_int1 (v1.read x1.rel h2), hn.1, hn.2, k _ B1 H1 x1 feeds_range⟩
    · cases h3
  · have l1 := hl _ _ h1
    have := v1.read x1.rel h2
    have l2 : vs.length = rs.length := v1.len
    cases this with
    | cons _ t =>
      cases t with
      | cons _ t =>
        cases t
        simp at l2
        have l1' : rs.length = 1 := l1
        omega
  · cases h3
theorem di_rng2 {tg e e2 : Expr} {cs : CA} {p pos : Pos} (hg : Gl X "range") (hm : X.mg "range" = none) (ha : DAs X [e, e2] cs) (hl : ∀ ρ z, cs ρ = some z → z.1.length = 2) (hs : starEach [e, e2] X.env = [(false, eval e X.env), (false, eval e2 X.env)]) (hs2 : starEach [e2] X.env = [(false, eval e2 X.env)]) :
    DI X tg (.Call (.Name "range" p) [e, e2] [] pos) (cRng cs) := by
  refine ⟨PI.weak (pi_range2 hg hm ha.pa hs hs2) fun σ H R w => ?_⟩
  obtain ⟨B, ρ, ds, ρ', r0, R0, e0, k⟩ := w
  unfold cRng at e0
  simp only [Option.bind_eq_bind, Option.bind_eq_some_iff] at e0
  obtain ⟨⟨rs, ρ1⟩, h1, xs, h2, h3⟩ := e0
  refine ⟨B, ρ, rs, ρ1, R0, h1, fun vs B1 H1 x1 v1 => ?_⟩
  split at h3
  · have l1 := hl _ _ h1
    have := v1.read x1.rel h2
    have l2 : vs.length = rs.length := v1.len
    cases this with
    | cons _ t =>
      cases t
      simp at l2
      have l1' : rs.length = 2 := l1
      omega
  · split at h3
    · rename_i m n hn
      cases h3
      exact ⟨m, n, reads_int2 (v1.read x1.rel h2), hn, k _ B1 H1 x1 feeds_range⟩
    · cases h3
  · cases h3
/-- enumerate(xs), zip(xs, ys): the lists and tuples are none of the frame's own -/
def cEnu (cs : CA) : CI := fun ρ => do
  let (rs, ρ1) ← cs ρ
  match ← keepAll rs with
  | [.list ds] => some (enumD 0 ds, ρ1, .d .none)
  | _ => none
def cZip (cs : CA) : CI := fun ρ => do
  let (rs, ρ1) ← cs ρ
  match ← keepAll rs with
  | [.list ds, .list es] => some (pairsD ds es, ρ1, .d .none)
  | [.tuple ds, .tuple es] => some (pairsD ds es, ρ1, .d .none)
  | _ => none
theorem good_walk (R : Rel K B σ H ρ) (h : Good K B H v (.list ds)) : ∃ a vs, v = .ref a ∧ SqR K (OwnA σ ρ) H a vs ∧ GoodAll K B H vs ds := by
  cases h with
  | lst nb q g => exact ⟨_, _, rfl, .inl ⟨fun o => nb (R.ownB o), q⟩, g⟩
  | lstK k g => exact ⟨_, _, rfl, .inr k, g⟩
theorem good_walkT (R : Rel K B σ H ρ) (h : Good K B H v (.tuple ds)) : ∃ a vs, v = .ref a ∧ SqRT K (OwnA σ ρ) H a vs ∧ GoodAll K B H vs ds := by
  cases h with
  | tup nb q g => exact ⟨_, _, rfl, .inl ⟨fun o => nb (R.ownB o), q⟩, g⟩
  | tupK k g => exact ⟨_, _, rfl, .inr k, g⟩
theorem di_enum {e : Expr} {elts : List Expr} {kk : Nat} {tpos : Pos} {cs : CA} {p pos : Pos} (hg : Gl X "enumerate") (hm : X.mg "enumerate" = none) (ha : DAs X [e] cs) (hs : starEach [e] X.env = [(false, eval e X.env)]) : DI X (.Tuple elts kk tpos) (.Call (.Name "enumerate" p) [e] [] pos) (cEnu cs) := by
  refine ⟨PI.weak (pi_enum hg hm ha.pa hs) fun σ H R w => ?_⟩
  obtain ⟨B, ρ, ds, ρ', r0, R0, e0, k⟩ := w
  unfold cEnu at e0
  simp only [Option.bind_eq_bind, Option.bind_eq_some_iff] at e0
  obtain ⟨⟨rs, ρ1⟩, h1, xs, h2, h3⟩ := e0
  refine ⟨B, ρ, rs, ρ1, R0, h1, fun vs B1 H1 x1 v1 => ?_⟩
  have g := v1.good R0 x1 h2
  split at h3
  · cases h3
    cases g with
    | cons g t =>
      cases t
      have xd := x1.dn R0
      obtain ⟨a, us, rfl, sq, g⟩ := good_walk xd.rel g
      exact ⟨a, us, rfl, sq.sql, k _ B H1 xd (feeds_enum sq g fun a o => xd.rel.ownB o)⟩
  · cases h3
theorem di_zip {e e2 : Expr} {elts : List Expr} {kk : Nat} {tpos : Pos} {cs : CA} {p pos : Pos} (hg : Gl X "zip") (hm : X.mg "zip" = none) (ha : DAs X [e, e2] cs) (hs : starEach [e, e2] X.env = (false, eval e X.env) :: starEach [e2] X.env) (hpl : (backTo pos (starEach [e2] X.env)).any (·.1) = false) :
    DI X (.Tuple elts kk tpos) (.Call (.Name "zip" p) [e, e2] [] pos) (cZip cs) := by
  refine ⟨PI.weak (pi_zipA hg hm ha.pa hs hpl) fun σ H R w => ?_⟩
  obtain ⟨B, ρ, ds, ρ', r0, R0, e0, k⟩ := w
  unfold cZip at e0
  simp only [Option.bind_eq_bind, Option.bind_eq_some_iff] at e0
  obtain ⟨⟨rs, ρ1⟩, h1, xs, h2, h3⟩ := e0
  refine ⟨B, ρ, rs, ρ1, R0, h1, fun vs B1 H1 x1 v1 => ?_⟩
  have g := v1.good R0 x1 h2
  have xd := x1.dn R0
  split at h3
  · cases h3
    cases g with
    | cons g t =>
      cases t with
      | cons g' t =>
        cases t
        obtain ⟨a, us, rfl, sq, g⟩ := good_walk xd.rel g
        obtain ⟨b, ws, rfl, sq', g'⟩ := good_walk xd.rel g'
        exact ⟨a, b, us, ws, rfl, .inl ⟨sq.sql, sq'.sql, k _ B H1 xd (feeds_zip sq sq' g g' fun a o => xd.rel.ownB o)⟩⟩
  · cases h3
    cases g with
    | cons g t =>
      cases t with
      | cons g' t =>
        cases t
        obtain ⟨a, us, rfl, sq, g⟩ := good_walkT xd.rel g
        obtain ⟨b, ws, rfl, sq', g'⟩ := good_walkT xd.rel g'
        exact ⟨a, b, us, ws, rfl, .inr ⟨sq.sqt fun _ _ _ z => z, sq'.sqt fun _ _ _ z => z, k _ B H1 xd (feeds_zipT sq sq' g g' fun a o => xd.rel.ownB o)⟩⟩
  · cases h3
end
end DL

/-! DL7: list comprehensions. -/
namespace DL
open PySem PySem.Spec PyProof.Rows L2
/-- what a target stores to -/
inductive Bnd where
  | name (i : Nat) | tup (is : List Nat)
def Bnd.slots : Bnd → List Nat
  | .name i => [i]
  | .tup is => is
def notOwn (ρ : Env) (i : Nat) : Bool := match ρ[i]? with
  | some (some (.own _)) => false
  | _ => true
def putAll : List Nat → List PyData → Env → Option Env
  | [], [], ρ => some ρ
  | i :: is, x :: xs, ρ => if notOwn ρ i = true then putAll is xs (ρ.set i (some (.d x))) else none
  | _, _, _ => none
def bindB : Bnd → PyData → Env → Option Env
  | .name i, x, ρ => putAll [i] [x] ρ
  | .tup is, .tuple xs, ρ => putAll is xs ρ
  | .tup _, _, _ => none
def tG (K : PySem.W.Frag) (b : Bnd) : TG := fun v σ H Q => ∃ B ρ x ρ', Rel K B σ H ρ ∧ Good K B H v x ∧ bindB b x ρ = some ρ' ∧
  ∀ σ', Rel K B σ' H ρ' → (∀ j, j ∉ b.slots → σ'[j]? = σ[j]?) → σ'.length = σ.length → Q σ' H
structure DG (X : Cx) (tg : Expr) (b : Bnd) : Prop where
  pg : PG X tg (tG X.K b)
theorem PG.weak {X : Cx} {tg : Expr} {t t' : TG} (h : PG X tg t) (k : ∀ v σ H Q, t' v σ H Q → t v σ H Q) : PG X tg t' := ⟨fun pins s σ H v u Q I r w => h.run pins s σ H v u Q I r (k v σ H Q w)⟩
section
variable {K : PySem.W.Frag} {B B' B'' B1 B2 W : Addr → Prop} {σ σ' : L2.St} {H H0 H' H'' H1 H2 : Hp} {ρ ρ' ρ'' ρ1 ρ2 ρ3 : Env} {r : Val} {v : V} {vs us : List V} {X : Cx} {a b : Addr} {ds es : List PyData}
theorem notOwn_of {i : Nat} {xs : List PyData} (h : notOwn ρ i = true) : ρ[i]? ≠ some (some (.own xs)) := fun e => by
  unfold notOwn at h
  rw [e] at h
  cases h
/-- a datum put into a slot -/
theorem Rel.put' (R : Rel K B σ H ρ) {i : Nat} {x : PyData} (g : Good K B H v x) : Rel K B (σ.set i (some v)) H (ρ.set i (some (.d x))) := by
  have own3 : ∀ {j : Nat} {ws : List PyData}, (ρ.set i (some (.d x)))[j]? = some (some (.own ws)) → j ≠ i ∧ ρ[j]? = some (some (.own ws)) := fun {j ws} h => by
    by_cases z : i = j
    · subst z
      by_cases hl : i < ρ.length
      · rw [List.getElem?_set_self hl] at h
        cases h
      · rw [List.getElem?_eq_none (by rw [List.length_set]; omega)] at h
        cases h
    · rw [List.getElem?_set_ne z] at h
      exact ⟨fun w => z w.symm, h⟩
  have ownA3 : ∀ c, OwnA (σ.set i (some v)) (ρ.set i (some (.d x))) c → OwnA σ ρ c := fun c ⟨j, ws, h1, h2⟩ => by
    obtain ⟨z, h⟩ := own3 h1
    rw [List.getElem?_set_ne (Ne.symm z)] at h2
    exact ⟨j, ws, h, h2⟩
  refine ⟨fun j y h => ?_, fun j ws h => ?_, fun j ws h => ?_, fun j k us ws c h1 h2 h3 h4 => ?_, R.tr, by rw [List.length_set, List.length_set]; exact R.len⟩
  · by_cases z : i = j
    · subst z
      by_cases hl : i < ρ.length
      · rw [List.getElem?_set_self hl] at h
        cases h
        exact ⟨v, List.getElem?_set_self (by rw [← R.len]; exact hl), g⟩
      · rw [List.getElem?_eq_none (by rw [List.length_set]; omega)] at h
        cases h
    · rw [List.getElem?_set_ne z] at h ⊢
      exact R.dat j y h
  · obtain ⟨z, h⟩ := own3 h
    rw [List.getElem?_set_ne (Ne.symm z)]
    exact R.own j ws h
  · have z : i ≠ j := fun z => by
      subst z
      by_cases hl : i < ρ.length
      · rw [List.getElem?_set_self hl] at h
        cases h
      · rw [List.getElem?_eq_none (by rw [List.length_set]; omega)] at h
        cases h
    rw [List.getElem?_set_ne z] at h ⊢
    obtain ⟨c, us, e3, s, gg⟩ := R.ro j ws h
    exact ⟨c, us, e3, s.keep (fun c o => .inl (ownA3 c o)) fun _ _ _ w => w, gg⟩
  · obtain ⟨z1, h1⟩ := own3 h1
    obtain ⟨z2, h2⟩ := own3 h2
    rw [List.getElem?_set_ne (Ne.symm z1)] at h3
    rw [List.getElem?_set_ne (Ne.symm z2)] at h4
    exact R.dis j k us ws c h1 h2 h3 h4
theorem Rel.put (R : Rel K B σ H ρ) {i : Nat} {x : PyData} (n : notOwn ρ i = true) (g : Good K B H v x) : Rel K B (σ.set i (some v)) H (ρ.set i (some (.d x))) := R.put' g
def gNames : List Nat → TGs
  | [] => gNil
  | i :: is => gCons (gName i) (gNames is)
theorem names_run : ∀ {is : List Nat} {xs : List PyData} {vs : List V} {σ : L2.St} {ρ : Env} {Q : L2.St → Hp → Prop}, Rel K B σ H ρ → GoodAll K B H vs xs → putAll is xs ρ = some ρ' →
    (∀ σ', Rel K B σ' H ρ' → (∀ j, j ∉ is → σ'[j]? = σ[j]?) → σ'.length = σ.length → Q σ' H) → gNames is vs σ H Q
  | [], [], _, σ, ρ, Q, R, g, e, k => by
    cases g
    cases e
    exact ⟨rfl, k σ R (fun _ _ => rfl) rfl⟩
  | [], _ :: _, _, _, _, _, _, _, e, _ => by cases e
  | _ :: _, [], _, _, _, _, _, _, e, _ => by cases e
  | i :: is, x :: xs, _, σ, ρ, Q, R, g, e, k => by
    cases g with
    | cons g t =>
      unfold putAll at e
      split at e
      · rename_i n
        refine ⟨_, _, rfl, ?_⟩
        refine names_run (R.put n g) t e fun σ' R' h1 h2 => k σ' R' (fun j hj => ?_) (by rw [h2, List.length_set])
        rw [h1 j fun z => hj (List.mem_cons_of_mem _ z), List.getElem?_set_ne fun z => hj (by rw [← z]; exact List.mem_cons_self)]
      · cases e
/-- names as targets -/
inductive TgOk (X : Cx) : List Expr → List Nat → Prop
  | nil : TgOk X [] []
  | cons {i : Nat} {x : Str} {pos : Pos} {es : List Expr} {is : List Nat} : X.N[i]? = some x → Loc X.env.scope x → (X.fn x = true ∨ X.env.scope.names.lookup x = some .local) → TgOk X es is → TgOk X (.Name x pos :: es) (i :: is)
theorem pgs_names (hN : X.N.Nodup) : ∀ {es : List Expr} {is : List Nat}, TgOk X es is → PGs X es (gNames is)
  | _, _, .nil => pgs_nil
  | _, _, .cons hi hx hf t => pgs_cons (pg_name hN hi hx hf) (pgs_names hN t) rfl
theorem dg_name {i : Nat} {x : Str} {pos : Pos} (hN : X.N.Nodup) (hi : X.N[i]? = some x) (hx : Loc X.env.scope x) (hf : X.fn x = true ∨ X.env.scope.names.lookup x = some .local) : DG X (.Name x pos) (.name i) := by
  refine ⟨PG.weak (pg_name hN hi hx hf) fun v σ H Q h => ?_⟩
  obtain ⟨B, ρ, y, ρ', R, g, e, k⟩ := h
  have := names_run R (.cons g .nil) e k
  obtain ⟨v', r, e1, h1⟩ := this
  cases e1
  obtain ⟨_, h1⟩ := h1
  exact h1
theorem names_count : ∀ {es : List Expr} {is : List Nat}, TgOk X es is → (assignEach es X.env).length = is.length ∧ (assignEach es X.env).findIdx? (·.1) = none
  | _, _, .nil => ⟨rfl, rfl⟩
  | _, _, .cons (pos := pos) (x := x) (es := es) _ _ _ t => by
    obtain ⟨h1, h2⟩ := names_count t
    have e : assignEach (.Name x pos :: es) X.env = (false, assign (.Name x pos) X.env) :: assignEach es X.env := rfl
    rw [e]
    refine ⟨by rw [List.length_cons, List.length_cons, h1], ?_⟩
    rw [List.findIdx?_cons, h2]
    rfl
theorem dg_tup {es : List Expr} {is : List Nat} {k : Nat} {pos : Pos} (hc : X.calm = true) (hN : X.N.Nodup) (t : TgOk X es is) : DG X (.Tuple es k pos) (.tup is) := by
  obtain ⟨h1, h2⟩ := names_count t
  refine ⟨PG.weak (pg_tup hc (pgs_names hN t) h1 h2) fun v σ H Q h => ?_⟩
  obtain ⟨B, ρ, y, ρ', R, g, e, k⟩ := h
  cases y with
  | tuple xs =>
    have hl : ∀ {is : List Nat} {xs : List PyData} {ρ : Env}, putAll is xs ρ = some ρ' → xs.length = is.length := fun {is} => by
      induction is with
      | nil => intro xs ρ e; cases xs with
        | nil => rfl
        | cons => cases e
      | cons i is ih => intro xs ρ e; cases xs with
        | nil => cases e
        | cons x xs =>
          unfold putAll at e
          split at e
          · rw [List.length_cons, List.length_cons, ih e]
          · cases e
    obtain ⟨a, vs, rfl, sq, ga⟩ := Read.tup (.inl g)
    exact ⟨a, vs, rfl, sq, by rw [ga.len]; exact hl e, names_run R ga e k⟩
  | _ => cases e

/-! ### the block's slots -/
def wipeE (ρ : Env) : List Nat → Env
  | [] => ρ
  | v :: vs => (wipeE ρ vs).set v none
def restE (ρ0 ρ : Env) : List Nat → Env
  | [] => ρ
  | v :: vs => (restE ρ0 ρ vs).set v (ρ0[v]?.getD none)
theorem wipeE_len : ∀ (is : List Nat), (wipeE ρ is).length = ρ.length
  | [] => rfl
  | i :: is => by rw [wipeE, List.length_set, wipeE_len is]
theorem restE_len {ρ0 : Env} : ∀ (is : List Nat), (restE ρ0 ρ is).length = ρ.length
  | [] => rfl
  | i :: is => by rw [restE, List.length_set, restE_len is]
theorem wipeE_out {i : Nat} : ∀ {is : List Nat}, i ∉ is → (wipeE ρ is)[i]? = ρ[i]?
  | [], _ => rfl
  | j :: is, h => by
    rw [wipeE, List.getElem?_set_ne fun z => h (by rw [z]; exact List.mem_cons_self), wipeE_out fun z => h (List.mem_cons_of_mem _ z)]
theorem wipeE_in {i : Nat} {sv : SV} : ∀ {is : List Nat}, i ∈ is → (wipeE ρ is)[i]? ≠ some (some sv)
  | j :: is, h => by
    rw [wipeE]
    by_cases z : j = i
    · subst z
      by_cases hl : j < (wipeE ρ is).length
      · rw [List.getElem?_set_self hl]
        exact fun e => nomatch e
      · rw [List.getElem?_eq_none (by rw [List.length_set]; omega)]
        exact fun e => nomatch e
    · rw [List.getElem?_set_ne z]
      exact wipeE_in ((List.mem_cons.mp h).resolve_left fun w => z w.symm)
  | [], h => nomatch h
theorem restE_out {ρ0 : Env} {i : Nat} : ∀ {is : List Nat}, i ∉ is → (restE ρ0 ρ is)[i]? = ρ[i]?
  | [], _ => rfl
  | j :: is, h => by
    rw [restE, List.getElem?_set_ne fun z => h (by rw [z]; exact List.mem_cons_self), restE_out fun z => h (List.mem_cons_of_mem _ z)]
theorem restE_in {ρ0 : Env} {i : Nat} (hl : ρ0.length = ρ.length) : ∀ {is : List Nat}, i ∈ is → (restE ρ0 ρ is)[i]? = ρ0[i]?
  | j :: is, h => by
    rw [restE]
    by_cases z : j = i
    · subst z
      by_cases hh : j < ρ.length
      · rw [List.getElem?_set_self (by rw [restE_len]; exact hh), List.getElem?_eq_getElem (by rw [hl]; exact hh)]
        rfl
      · rw [List.getElem?_eq_none (by rw [List.length_set, restE_len]; omega), List.getElem?_eq_none (by omega)]
    · rw [List.getElem?_set_ne z]
      exact restE_in hl ((List.mem_cons.mp h).resolve_left fun w => z w.symm)
  | [], h => nomatch h
theorem wipe_in {i : Nat} {x : V} : ∀ {is : List Nat}, i ∈ is → (wipe σ is)[i]? ≠ some (some x) := fun {is} h e => (wipe_some e).2 h
theorem wipe_off {i : Nat} : ∀ {is : List Nat}, i ∉ is → (wipe σ is)[i]? = σ[i]?
  | [], _ => rfl
  | j :: is, h => by
    unfold wipe
    rw [List.getElem?_set_ne fun z => h (by rw [z]; exact List.mem_cons_self), wipe_off fun z => h (List.mem_cons_of_mem _ z)]
theorem wipe_cong {is : List Nat} (h : ∀ j, j ∉ is → σ'[j]? = σ[j]?) (hl : σ'.length = σ.length) : wipe σ' is = wipe σ is := by
  refine List.ext_getElem? fun j => ?_
  by_cases m : j ∈ is
  · have l1 : (wipe σ' is).length = (wipe σ is).length := by rw [wipe_length, wipe_length, hl]
    have q : ∀ {τ : L2.St}, j < τ.length → (wipe τ is)[j]? = some none := fun {τ} hj => by
      cases e : (wipe τ is)[j]? with
      | none => rw [List.getElem?_eq_none_iff, wipe_length] at e; omega
      | some z => cases z with
        | none => rfl
        | some x => exact (wipe_in m e).elim
    by_cases hj : j < σ.length
    · rw [q hj, q (by omega)]
    · rw [List.getElem?_eq_none (by rw [wipe_length]; omega), List.getElem?_eq_none (by rw [wipe_length]; omega)]
  · rw [wipe_off m, wipe_off m, h j m]
theorem Rel.wipe (R : Rel K B σ H ρ) {is : List Nat} (n : ∀ i ∈ is, notOwn ρ i = true) : Rel K B (L2.wipe σ is) H (wipeE ρ is) := by
  have out : ∀ {j : Nat} {sv : SV}, (wipeE ρ is)[j]? = some (some sv) → j ∉ is ∧ ρ[j]? = some (some sv) := fun {j sv} h => by
    have m : j ∉ is := fun m => wipeE_in m h
    rw [wipeE_out m] at h
    exact ⟨m, h⟩
  have ownA3 : ∀ c, OwnA (L2.wipe σ is) (wipeE ρ is) c → OwnA σ ρ c := fun c ⟨j, ws, h1, h2⟩ => by
    obtain ⟨m, h⟩ := out h1
    rw [wipe_off m] at h2
    exact ⟨j, ws, h, h2⟩
  refine ⟨fun j y h => ?_, fun j ws h => ?_, fun j ws h => ?_, fun j k us ws c h1 h2 h3 h4 => ?_, R.tr, by rw [wipeE_len, wipe_length]; exact R.len⟩
  · obtain ⟨m, h⟩ := out h
    rw [wipe_off m]
    exact R.dat j y h
  · obtain ⟨m, h⟩ := out h
    rw [wipe_off m]
    exact R.own j ws h
  · obtain ⟨m, h⟩ := out h
    rw [wipe_off m]
    obtain ⟨c, us, e3, s, gg⟩ := R.ro j ws h
    exact ⟨c, us, e3, s.keep (fun c o => .inl (ownA3 c o)) fun _ _ _ w => w, gg⟩
  · obtain ⟨m1, h1⟩ := out h1
    obtain ⟨m2, h2⟩ := out h2
    rw [wipe_off m1] at h3
    rw [wipe_off m2] at h4
    exact R.dis j k us ws c h1 h2 h3 h4
theorem ownA_wipe {is : List Nat} (n : ∀ i ∈ is, notOwn ρ i = true) (c : Addr) : OwnA (wipe σ is) (wipeE ρ is) c ↔ OwnA σ ρ c := by
  constructor
  · rintro ⟨j, ws, h1, h2⟩
    have m : j ∉ is := fun m => wipeE_in m h1
    rw [wipeE_out m] at h1
    rw [wipe_off m] at h2
    exact ⟨j, ws, h1, h2⟩
  · rintro ⟨j, ws, h1, h2⟩
    have m : j ∉ is := fun m => notOwn_of (n j m) h1
    exact ⟨j, ws, by rw [wipeE_out m]; exact h1, by rw [wipe_off m]; exact h2⟩
/-- back in the def's own slots -/
theorem Ext.rest {ρ0 : Env} {is : List Nat} (R : Rel K B σ H ρ0) (n : ∀ i ∈ is, notOwn ρ0 i = true) (x : Ext K B (wipe σ is) H (wipeE ρ0 is) B' H' ρ) : Ext K B σ H ρ0 B' H' (restE ρ0 ρ is) := by
  have hl : ρ0.length = ρ.length := by rw [x.sl.len, wipeE_len]
  have own3 : ∀ {j : Nat} {ws : List PyData}, (restE ρ0 ρ is)[j]? = some (some (.own ws)) → j ∉ is ∧ ρ[j]? = some (some (.own ws)) := fun {j ws} h => by
    have m : j ∉ is := fun m => by
      rw [restE_in hl m] at h
      exact notOwn_of (n j m) h
    rw [restE_out m] at h
    exact ⟨m, h⟩
  have ownA3 : ∀ c, OwnA σ (restE ρ0 ρ is) c → OwnA (wipe σ is) ρ c := fun c ⟨j, ws, h1, h2⟩ => by
    obtain ⟨m, h⟩ := own3 h1
    exact ⟨j, ws, h, by rw [wipe_off m]; exact h2⟩
  have keep : ∀ a o, ¬ OwnA σ ρ0 a → H a = some o → H' a = some o := fun a o q e => x.keep a o (fun z => q ((ownA_wipe n a).mp z)) e
  have kb : ∀ a o, ¬ B a → H a = some o → H' a = some o := fun a o q e => keep a o (fun z => q (R.ownB z)) e
  refine ⟨x.up, x.new, ⟨fun j y h => ?_, fun j ws h => ?_, fun j ws h => ?_, fun j k us ws c h1 h2 h3 h4 => ?_, x.rel.tr, by rw [restE_len, ← hl]; exact R.len⟩, fun j => ?_, keep⟩
  · by_cases m : j ∈ is
    · rw [restE_in hl m] at h
      obtain ⟨v, e1, g⟩ := R.dat j y h
      exact ⟨v, e1, g.mv x.new kb⟩
    · rw [restE_out m] at h
      obtain ⟨v, e1, g⟩ := x.rel.dat j y h
      rw [wipe_off m] at e1
      exact ⟨v, e1, g⟩
  · obtain ⟨m, h⟩ := own3 h
    obtain ⟨c, us, e1, q⟩ := x.rel.own j ws h
    rw [wipe_off m] at e1
    exact ⟨c, us, e1, q⟩
  · by_cases m : j ∈ is
    · rw [restE_in hl m] at h
      obtain ⟨c, us, e1, s, g⟩ := R.ro j ws h
      exact ⟨c, us, e1, s.keep (fun c o => .inl ((ownA_wipe n c).mp ((x.sl.ownA c).mp (ownA3 c o)))) keep, g.mv x.new kb⟩
    · rw [restE_out m] at h
      obtain ⟨c, us, e1, s, g⟩ := x.rel.ro j ws h
      rw [wipe_off m] at e1
      exact ⟨c, us, e1, s.keep (fun c o => .inl (ownA3 c o)) fun _ _ _ w => w, g⟩
  · obtain ⟨m1, h1⟩ := own3 h1
    obtain ⟨m2, h2⟩ := own3 h2
    exact x.rel.dis j k us ws c h1 h2 (by rw [wipe_off m1]; exact h3) (by rw [wipe_off m2]; exact h4)
  · by_cases m : j ∈ is
    · exact .inl (restE_in hl m)
    · rw [restE_out m]
      have := x.sl j
      rw [wipeE_out m] at this
      exact this
/-! ### the comprehension -/
def loopC (is : List Nat) (b : Bnd) (ct : CT) (ce : CE) : List PyData → Env → List PyData → Option (List PyData × Env)
  | [], ρ, acc => some (acc, ρ)
  | d :: ds, ρ, acc => do
    let ρb ← bindB b d ρ
    let (t, ρt) ← ct ρb
    match t with
    | true =>
      let (r, ρe) ← ce ρt
      let x ← keepV r
      if acc.length < sizeLine ∧ (is.all fun i => notOwn ρe i) = true then loopC is b ct ce ds (wipeE ρe is) (acc ++ [x]) else none
    | false => if (is.all fun i => notOwn ρt i) = true then loopC is b ct ce ds (wipeE ρt is) acc else none
def cLC (is : List Nat) (ci : CI) (b : Bnd) (ct : CT) (ce : CE) : CE := fun ρ => do
  let (ds, ρ1, r) ← ci ρ
  if (is.all fun i => notOwn (lend ρ1 r) i) = true then do
    let (xs, ρ2) ← loopC is b ct ce ds (wipeE (lend ρ1 r) is) []
    let ρ3 ← unlend ρ1 (restE (lend ρ1 r) ρ2 is) r
    pure (.n (.list xs), ρ3)
  else none
/-- the new list's own change leaves all else -/
theorem Rel.updD (R : Rel K B σ H ρ) {D : Addr} {ws : List V} (b : B D) (no : ¬ OwnA σ ρ D) (hro : ∀ (i : Nat) xs, ρ[i]? = some (some (SV.ro xs)) → ∃ a vs, σ[i]? = some (some (.ref a)) ∧ SqR K (OwnA σ ρ) (upd H D (.lst ws)) a vs ∧ GoodAll K B (upd H D (.lst ws)) vs xs) : Rel K B σ (upd H D (.lst ws)) ρ := by
  have kh : ∀ a o, ¬ B a → H a = some o → upd H D (.lst ws) a = some o := fun a o n e => by
    rw [upd_ne fun z => n (by rw [z]; exact b)]
    exact e
  refine ⟨fun j y h => ?_, fun j us h => ?_, hro, R.dis, fun a h => ?_, R.len⟩
  · obtain ⟨v, e1, g⟩ := R.dat j y h
    exact ⟨v, e1, g.mv (fun _ z => .inl z) kh⟩
  · obtain ⟨c, vs, e1, bc, e2, g⟩ := R.own j us h
    refine ⟨c, vs, e1, bc, ?_, g.mv (fun _ z => .inl z) kh⟩
    rw [upd_ne fun z => no (by rw [← z]; exact ⟨j, us, h, e1⟩)]
    exact e2
  · by_cases z : a = D
    · exact ⟨ws, by rw [z, upd_same]⟩
    · rw [upd_ne z]
      exact R.tr a h
theorem loopC_some {is : List Nat} {b : Bnd} {ct : CT} {ce : CE} {d : PyData} {acc : List PyData} {z : List PyData × Env} (h : loopC is b ct ce (d :: ds) ρ acc = some z) :
    ∃ ρb, bindB b d ρ = some ρb ∧ ((∃ ρt r ρe x, ct ρb = some (true, ρt) ∧ ce ρt = some (r, ρe) ∧ keepV r = some x ∧ acc.length < sizeLine ∧ (∀ i ∈ is, notOwn ρe i = true) ∧ loopC is b ct ce ds (wipeE ρe is) (acc ++ [x]) = some z) ∨
      ∃ ρt, ct ρb = some (false, ρt) ∧ (∀ i ∈ is, notOwn ρt i = true) ∧ loopC is b ct ce ds (wipeE ρt is) acc = some z) := by
  unfold loopC at h
  simp only [Option.bind_eq_bind, Option.bind_eq_some_iff] at h
  obtain ⟨ρb, h1, ⟨t, ρt⟩, h2, h3⟩ := h
  cases t with
  | true =>
    simp only [Option.bind_eq_some_iff] at h3
    obtain ⟨⟨r, ρe⟩, h4, x, h5, h6⟩ := h3
    split at h6
    · rename_i h7
      exact ⟨ρb, h1, .inl ⟨ρt, r, ρe, x, h2, h4, h5, h7.1, fun i m => List.all_eq_true.mp h7.2 i m, h6⟩⟩
    · cases h6
  | false =>
    simp only at h3
    split at h3
    · rename_i h7
      exact ⟨ρb, h1, .inr ⟨ρt, h2, fun i m => List.all_eq_true.mp h7 i m, h3⟩⟩
    · cases h3
theorem Slots.wipe {is : List Nat} (x : Slots ρ ρ') : Slots (wipeE ρ is) (wipeE ρ' is) := fun i => by
  by_cases m : i ∈ is
  · have q : ∀ τ : Env, i < τ.length → (wipeE τ is)[i]? = some none := fun τ hi => by
      cases e : (wipeE τ is)[i]? with
      | none => rw [List.getElem?_eq_none_iff, wipeE_len] at e; omega
      | some z => cases z with
        | none => rfl
        | some s => exact (wipeE_in m e).elim
    by_cases hi : i < ρ.length
    · rw [q ρ hi, q ρ' (by rw [x.len]; exact hi)]
      exact .inl rfl
    · rw [List.getElem?_eq_none (by rw [wipeE_len, x.len]; omega), List.getElem?_eq_none (by rw [wipeE_len]; omega)]
      exact .inl rfl
  · rw [wipeE_out m, wipeE_out m]
    exact x i
theorem wipeE_twice {is : List Nat} : wipeE (wipeE ρ is) is = wipeE ρ is := by
  refine List.ext_getElem? fun i => ?_
  by_cases m : i ∈ is
  · have q : ∀ τ : Env, i < τ.length → (wipeE τ is)[i]? = some none := fun τ hi => by
      cases e : (wipeE τ is)[i]? with
      | none => rw [List.getElem?_eq_none_iff, wipeE_len] at e; omega
      | some z => cases z with
        | none => rfl
        | some s => exact (wipeE_in m e).elim
    by_cases hi : i < ρ.length
    · rw [q _ hi, q _ (by rw [wipeE_len]; exact hi)]
    · rw [List.getElem?_eq_none (by rw [wipeE_len, wipeE_len]; omega), List.getElem?_eq_none (by rw [wipeE_len]; omega)]
  · rw [wipeE_out m]
/-- a turn's end, with the slots wiped -/
theorem bind_slots : ∀ {is : List Nat} {xs : List PyData} {ρ ρ' : Env}, putAll is xs ρ = some ρ' → (∀ j, j ∉ is → ρ'[j]? = ρ[j]?) ∧ ρ'.length = ρ.length
  | [], [], _, _, e => by
    cases e
    exact ⟨fun _ _ => rfl, rfl⟩
  | [], _ :: _, _, _, e => by cases e
  | _ :: _, [], _, _, e => by cases e
  | i :: is, x :: xs, ρ, ρ', e => by
    unfold putAll at e
    split at e
    · obtain ⟨h1, h2⟩ := bind_slots e
      refine ⟨fun j hj => ?_, by rw [h2, List.length_set]⟩
      rw [h1 j fun z => hj (List.mem_cons_of_mem _ z), List.getElem?_set_ne fun z => hj (by rw [← z]; exact List.mem_cons_self)]
    · cases e
theorem bindB_slots {b : Bnd} {x : PyData} (e : bindB b x ρ = some ρ') : (∀ j, j ∉ b.slots → ρ'[j]? = ρ[j]?) ∧ ρ'.length = ρ.length := by
  cases b with
  | name i => exact bind_slots e
  | tup is =>
    cases x with
    | tuple xs => exact bind_slots e
    | _ => cases e
theorem wipeE_cong {is : List Nat} (h : ∀ j, j ∉ is → ρ'[j]? = ρ[j]?) (hl : ρ'.length = ρ.length) : wipeE ρ' is = wipeE ρ is := by
  refine List.ext_getElem? fun i => ?_
  by_cases m : i ∈ is
  · have q : ∀ τ : Env, i < τ.length → (wipeE τ is)[i]? = some none := fun τ hi => by
      cases e : (wipeE τ is)[i]? with
      | none => rw [List.getElem?_eq_none_iff, wipeE_len] at e; omega
      | some z => cases z with
        | none => rfl
        | some s => exact (wipeE_in m e).elim
    by_cases hi : i < ρ.length
    · rw [q _ hi, q _ (by rw [hl]; exact hi)]
    · rw [List.getElem?_eq_none (by rw [wipeE_len]; omega), List.getElem?_eq_none (by rw [wipeE_len]; omega)]
  · rw [wipeE_out m, wipeE_out m, h i m]
/-- the state of the comprehension's walk -/
structure LcOk (K : PySem.W.Frag) (B1 : Addr → Prop) (σ : L2.St) (H1 : Hp) (ρL : Env) (is : List Nat) (D : Addr) (Bi : Addr → Prop) (Hi : Hp) (ρi : Env) (acc : List PyData) : Prop where
  rel : Rel K Bi (wipe σ is) Hi ρi
  sl : Slots (wipeE ρL is) ρi
  up : ∀ a, B1 a → Bi a
  new : ∀ a, Bi a → B1 a ∨ H1 a = none
  d : Bi D
  lst : ∃ vs, Hi D = some (.lst vs) ∧ GoodAll K Bi Hi vs acc
  keep : ∀ a o, ¬ OwnA σ ρL a → H1 a = some o → Hi a = some o
theorem bind_notOwn : ∀ {is : List Nat} {xs : List PyData} {ρ ρ' : Env}, putAll is xs ρ = some ρ' → ∀ j, (j ∈ is ∨ notOwn ρ j = true) → notOwn ρ' j = true
  | [], [], _, _, e, j, h => by
    cases e
    exact h.elim (fun z => nomatch z) fun z => z
  | [], _ :: _, _, _, e, _, _ => by cases e
  | _ :: _, [], _, _, e, _, _ => by cases e
  | i :: is, x :: xs, ρ, ρ', e, j, h => by
    unfold putAll at e
    split at e
    · refine bind_notOwn e j ?_
      by_cases z : i = j
      · refine .inr ?_
        subst z
        unfold notOwn
        by_cases hl : i < ρ.length
        · rw [List.getElem?_set_self hl]
        · rw [List.getElem?_eq_none (by rw [List.length_set]; omega)]
      · rcases h with h | h
        · exact .inl ((List.mem_cons.mp h).resolve_left fun w => z w.symm)
        · refine .inr ?_
          unfold notOwn at h ⊢
          rw [List.getElem?_set_ne z]
          exact h
    · cases e
theorem bindB_notOwn {b : Bnd} {x : PyData} (e : bindB b x ρ = some ρ') : ∀ j ∈ b.slots, notOwn ρ' j = true := fun j h => by
  cases b with
  | name i => exact bind_notOwn e j (.inl h)
  | tup is =>
    cases x with
    | tuple xs => exact bind_notOwn e j (.inl h)
    | _ => cases e
theorem wipeE_none {is : List Nat} {j : Nat} (mj : j ∈ is) (hj : j < ρ.length) : (wipeE ρ is)[j]? = some none := by
  cases e : (wipeE ρ is)[j]? with
  | none => rw [List.getElem?_eq_none_iff, wipeE_len] at e; omega
  | some z => cases z with
    | none => rfl
    | some s => exact (wipeE_in mj e).elim
section
variable {is : List Nat} {D : Addr} {ρL ρi ρb ρt : Env} {Bi Bt : Addr → Prop} {Hi Hy Ht : Hp} {acc : List PyData} {b : Bnd} {σb : L2.St}
/-- the block's slots hold nothing between the turns -/
theorem LcOk.bare (L : LcOk K B1 σ H1 ρL is D Bi Hi ρi acc) : wipeE ρi is = ρi := by
  have sl := L.sl
  have ll := sl.len
  rw [wipeE_len] at ll
  refine List.ext_getElem? fun j => ?_
  by_cases mj : j ∈ is
  · rcases sl j with w | ⟨us, ws, w, _⟩
    · rw [w]
      by_cases hj : j < ρi.length
      · rw [wipeE_none mj hj, wipeE_none mj (by omega)]
      · rw [List.getElem?_eq_none (by rw [wipeE_len]; omega), List.getElem?_eq_none (by rw [wipeE_len]; omega)]
    · exact (wipeE_in mj w).elim
  · exact wipeE_out mj
theorem LcOk.ownA (L : LcOk K B1 σ H1 ρL is D Bi Hi ρi acc) (nw : ∀ i ∈ is, notOwn ρL i = true) (c : Addr) : OwnA (L2.wipe σ is) ρi c ↔ OwnA σ ρL c := (L.sl.ownA c).trans (ownA_wipe nw c)
theorem LcOk.unt (L : LcOk K B1 σ H1 ρL is D Bi Hi ρi acc) (nw : ∀ i ∈ is, notOwn ρL i = true) {a : Addr} (n : Hi a = none) : H1 a = none := by
  cases e : H1 a with
  | none => rfl
  | some o =>
    by_cases q : OwnA σ ρL a
    · exact (L.rel.nown n ((L.ownA nw a).mpr q)).elim
    · rw [L.keep a o q e] at n
      cases n
/-- a turn, but for the item that it adds -/
theorem LcOk.turn (RL : Rel K B1 σ H1 ρL) (n0 : H1 D = none) (L : LcOk K B1 σ H1 ρL is D Bi Hi ρi acc) (nw : ∀ i ∈ is, notOwn ρL i = true) (hsub : ∀ j ∈ b.slots, j ∈ is) (sm : Same Hi Hy) {d : PyData} (hb : bindB b d ρi = some ρb)
    (Rb : Rel K Bi σb Hy ρb) (h1 : ∀ j, j ∉ b.slots → σb[j]? = (L2.wipe σ is)[j]?) (h2 : σb.length = (L2.wipe σ is).length) (x : Ext K Bi σb Hy ρb Bt Ht ρt) (hno : ∀ i ∈ is, notOwn ρt i = true) :
    LcOk K B1 σ H1 ρL is D Bt Ht (wipeE ρt is) acc := by
  obtain ⟨b1, b2⟩ := bindB_slots hb
  have hw : L2.wipe σb is = L2.wipe σ is := by
    rw [wipe_cong (σ := L2.wipe σ is) (fun j hj => h1 j fun z => hj (hsub j z)) h2]
    exact wipe_cong (fun j hj => wipe_off hj) (wipe_length _ _)
  have hwE : wipeE ρb is = ρi := (wipeE_cong (fun j hj => b1 j fun z => hj (hsub j z)) b2).trans L.bare
  have ownb : ∀ c, OwnA σb ρb c ↔ OwnA (L2.wipe σ is) ρi c := fun c => by
    constructor
    · rintro ⟨j, ws, o1, o2⟩
      by_cases mj : j ∈ b.slots
      · exact (notOwn_of (bindB_notOwn hb j mj) o1).elim
      · rw [b1 j mj] at o1
        rw [h1 j mj] at o2
        exact ⟨j, ws, o1, o2⟩
    · rintro ⟨j, ws, o1, o2⟩
      have mj : j ∉ b.slots := fun mj => by
        rw [← L.bare] at o1
        exact wipeE_in (hsub j mj) o1
      exact ⟨j, ws, by rw [b1 j mj]; exact o1, by rw [h1 j mj]; exact o2⟩
  have R' := x.rel.wipe hno
  rw [hw] at R'
  have sl' : Slots ρi (wipeE ρt is) := by
    have := x.sl.wipe (is := is)
    rw [hwE] at this
    exact this
  obtain ⟨vs, e, g⟩ := L.lst
  have kh : ∀ a o, ¬ Bi a → Hi a = some o → Ht a = some o := fun a o n w => x.keep a o (fun z => n (Rb.ownB z)) (sm a o w)
  have nD : ¬ OwnA σb ρb D := fun z => RL.nown n0 ((L.ownA nw D).mp ((ownb D).mp z))
  refine ⟨R', L.sl.trans sl', fun a h => x.up a (L.up a h), fun a h => ?_, x.up D L.d, ⟨vs, x.keep D _ nD (sm D _ e), g.mv (fun a h => (x.new a h).elim .inl fun z => .inr ?_) kh⟩, fun a o n w => x.keep a o (fun z => n ((L.ownA nw a).mp ((ownb a).mp z))) (sm a o (L.keep a o n w))⟩
  · rcases x.new a h with h | h
    · exact L.new a h
    · refine .inr (L.unt nw ?_)
      cases q : Hi a with
      | none => rfl
      | some o => rw [sm a o q] at h; cases h
  · cases q : Hi a with
    | none => rfl
    | some o => rw [sm a o q] at z; cases z
/-- the item that a turn adds -/
theorem LcOk.app (RL : Rel K B1 σ H1 ρL) (RW : Rel K B1 (L2.wipe σ is) H1 (wipeE ρL is)) (n0 : H1 D = none) (L : LcOk K B1 σ H1 ρL is D Bi Hi ρi acc) (nw : ∀ i ∈ is, notOwn ρL i = true) {vs : List V} (e : Hi D = some (.lst vs)) {y : V} {x : PyData} (g : Good K Bi Hi y x) :
    LcOk K B1 σ H1 ρL is D Bi (upd Hi D (.lst (vs ++ [y]))) ρi (acc ++ [x]) := by
  have no : ¬ OwnA (L2.wipe σ is) ρi D := fun z => RL.nown n0 ((L.ownA nw D).mp z)
  have kb : ∀ a o, ¬ Bi a → Hi a = some o → upd Hi D (.lst (vs ++ [y])) a = some o := fun a o n w => by
    rw [upd_ne fun z => n (by rw [z]; exact L.d)]
    exact w
  have kh : ∀ a o, ¬ OwnA σ ρL a → H1 a = some o → upd Hi D (.lst (vs ++ [y])) a = some o := fun a o n w => by
    rw [upd_ne (ne_of_none w n0)]
    exact L.keep a o n w
  obtain ⟨vs', e', ga⟩ := L.lst
  rw [e] at e'
  cases e'
  refine ⟨L.rel.updD L.d no fun i ws h => ?_, L.sl, L.up, L.new, L.d, ⟨_, upd_same, (ga.mv (fun _ z => .inl z) kb).app (.cons (g.mv (fun _ z => .inl z) kb) .nil)⟩, kh⟩
  obtain ⟨a, us, q1, q2, gg⟩ := RW.ro i ws (L.sl.ro.mp h)
  exact ⟨a, us, q1, q2.keep (fun c o => .inl ((L.sl.ownA c).mp o)) fun c o n w => kh c o (fun z => n ((ownA_wipe nw c).mpr z)) w, gg.mv L.new fun c o n w => kh c o (fun z => n (RL.ownB z)) w⟩
end
theorem lc_read {is : List Nat} {b : Bnd} {ci : CI} {ct : CT} {ce : CE} (hsub : ∀ j ∈ b.slots, j ∈ is) : ∀ (σ : L2.St) (H : Hp) (Q : VK), tE K (cLC is ci b ct ce) σ H Q → tLc (tI K ci) (tG K b) (tT K ct) (tE K ce) is σ H Q := by
  intro σ H Q h
  obtain ⟨B, ρ, z, ρ', R, e, k⟩ := h
  unfold cLC at e
  simp only [Option.bind_eq_bind, Option.bind_eq_some_iff, Option.pure_def] at e
  obtain ⟨⟨ds, ρ1, r⟩, e1, e2⟩ := e
  split at e2
  rotate_left
  · cases e2
  rename_i nw
  simp only [Option.bind_eq_some_iff, Option.some.injEq] at e2
  obtain ⟨⟨xs, ρ2⟩, e3, ρ3, e4, e5⟩ := e2
  cases e5
  have nw : ∀ i ∈ is, notOwn (lend ρ1 r) i = true := fun i m => List.all_eq_true.mp nw i m
  refine ⟨B, ρ, ds, ρ1, r, R, e1, fun J B1 H1 x1 fd D nD => ?_⟩
  have RL : Rel K B1 σ H1 (lend ρ1 r) := x1.rel.lend r
  have RW : Rel K B1 (wipe σ is) H1 (wipeE (lend ρ1 r) is) := RL.wipe nw
  refine ⟨fun i m Hi => m = ds.length - i ∧ i ≤ ds.length ∧ ∃ Bi ρi acc, LcOk K B1 σ H1 (lend ρ1 r) is D Bi Hi ρi acc ∧ loopC is b ct ce (ds.drop i) ρi acc = some (xs, ρ2), ⟨ds.length, by simp, Nat.zero_le _, fun a => B1 a ∨ a = D, wipeE (lend ρ1 r) is, [], ?_, by simpa using e3⟩, ?_⟩
  · have sm := same_updD (o := .lst []) nD
    refine ⟨RW.mv sm (fun a h => h.elim .inl fun z => .inr (by rw [z]; exact nD)) (fun _ h => .inl h) fun a h => ?_, .refl _, fun _ h => .inl h, fun a h => h.elim .inl fun z => .inr (by rw [z]; exact nD), .inr rfl, ⟨[], upd_same, .nil⟩, fun a o _ w => sm a o w⟩
    rcases h with h | rfl
    · obtain ⟨us, q⟩ := RW.tr a h
      exact ⟨us, sm _ _ q⟩
    · exact ⟨[], upd_same⟩
  · rintro i m Hi ⟨rfl, hi, Bi, ρi, acc, L, hl⟩
    obtain ⟨f1, f2⟩ := fd i Hi fun a o n w => L.keep a o n w
    by_cases hd : i < ds.length
    · -- one more item
      obtain ⟨f3, f4⟩ := f2 ds[i] (List.getElem?_eq_getElem hd)
      rw [List.drop_eq_getElem_cons hd] at hl
      refine .inr ⟨f3, fun Hn => i + 1 ≤ ds.length ∧ ∃ Bi ρi acc, LcOk K B1 σ H1 (lend ρ1 r) is D Bi Hn ρi acc ∧ loopC is b ct ce (ds.drop (i + 1)) ρi acc = some (xs, ρ2), fun Hn hn => ⟨ds.length - (i + 1), by omega, rfl, hn.1, hn.2⟩, fun x Hy y => ?_⟩
      obtain ⟨sm, gd⟩ := f4 x Hy y
      have g := gd Bi L.new L.rel.tr0
      have Ry := L.rel.same sm
      obtain ⟨ρb, hb, hl⟩ := loopC_some hl
      refine ⟨Bi, ρi, _, ρb, Ry, g, hb, fun σb Rb h1 h2 => ?_⟩
      have hw : wipe σb is = wipe σ is := by
        rw [wipe_cong (σ := wipe σ is) (fun j hj => h1 j fun z => hj (hsub j z)) h2]
        exact wipe_cong (fun j hj => wipe_off hj) (wipe_length _ _)
      refine ⟨hw, ?_⟩
      rcases hl with ⟨ρt, r', ρe, x', ht, he, hk, hlen, hno, hloop⟩ | ⟨ρt, ht, hno, hloop⟩
      · refine ⟨Bi, ρb, true, ρt, Rb, ht, fun B2 H2 x2 => iteT ?_⟩
        refine ⟨B2, ρt, r', ρe, x2.rel, he, fun y B4 H4 x4 v4 => ?_⟩
        have gy := v4.good x2.rel x4 hk
        have xt := Ext.trans Rb x2 (x4.dn x2.rel)
        have L4 := L.turn RL nD nw hsub sm hb Rb h1 h2 xt hno
        obtain ⟨vacc, eD, gacc⟩ := L4.lst
        exact ⟨vacc, eD, by rw [gacc.len]; exact hlen, by omega, B2, wipeE ρe is, acc ++ [x'], L4.app RL RW nD nw eD gy, hloop⟩
      · refine ⟨Bi, ρb, false, ρt, Rb, ht, fun B2 H2 x2 => iteF ?_⟩
        exact ⟨by omega, B2, wipeE ρt is, acc, L.turn RL nD nw hsub sm hb Rb h1 h2 x2 hno, hloop⟩
    · -- the end
      have ei : i = ds.length := by omega
      refine .inl ⟨f1 ei, ?_⟩
      subst ei
      rw [List.drop_length] at hl
      cases hl
      have xw : Ext K B1 (wipe σ is) H1 (wipeE (lend ρ1 r) is) Bi Hi ρ2 := ⟨L.up, L.new, L.rel, L.sl, fun a o n w => L.keep a o (fun z => n ((ownA_wipe nw a).mpr z)) w⟩
      have xr := Ext.unlend x1.rel (xw.rest RL nw) e4
      have x := x1.trans R xr
      obtain ⟨vs, eD, g⟩ := L.lst
      have n0 := x1.none_of R nD
      exact k _ Bi Hi x ⟨D, vs, xs, rfl, rfl, n0, L.d, fun o => R.nown n0 ((x.sl.ownA D).mp o), eD, g⟩
end
end DL

/-! DL8: statements. -/
namespace DL
open PySem PySem.Spec PyProof.Rows L2
section
variable {X : Cx} {pos : Pos}
/-- what a comprehension's block wants: its target, test and element in the block's own context -/
structure Blk (X : Cx) (scope : Scope) (tg : Expr) (ifs : List Expr) (elt : Expr) (b : Bnd) (ct : CT) (ce : CE) : Prop where
  g : ∀ (s : Shared) (H : Hp) (C : Addr) (cl : List (Str × Addr)) (fp : List Addr), DG (X.blk s H scope (compEnvC scope cl C X.env) fp) tg b
  t : ∀ (s : Shared) (H : Hp) (C : Addr) (cl : List (Str × Addr)) (fp : List Addr), PTs (X.blk s H scope (compEnvC scope cl C X.env) fp) ifs (tT X.K ct)
  e : ∀ (s : Shared) (H : Hp) (C : Addr) (cl : List (Str × Addr)) (fp : List Addr), DE (X.blk s H scope (compEnvC scope cl C X.env) fp) elt ce
theorem de_lc {elt tg iter : Expr} {ifs : List Expr} {scope : Scope} {own : List (Str × Nat)} {ci : CI} {b : Bnd} {ct : CT} {ce : CE} (hc : X.calm = true) (hN : X.N.Nodup) (hi : DI X tg iter ci) (ok : BlkOk X.N X.env.scope scope own) (h : Blk X scope tg ifs elt b ct ce)
    (hsub : ∀ j ∈ b.slots, j ∈ own.map (·.2)) (hs : ∀ x, foldedSetIterable iter X.env x = pure x) : DE X (.ListComp elt [⟨tg, iter, ifs, 0⟩] scope pos) (cLC (own.map (·.2)) ci b ct ce) :=
  ⟨PE.weak (pe_lc hc hN hi.pi ok (fun s H C cl fp => (h.g s H C cl fp).pg) h.t (fun s H C cl fp => (h.e s H C cl fp).pe) hs) (lc_read hsub)⟩
/-- no test, one test -/
def cYes : CT := fun ρ => some (true, ρ)
theorem pts_yes : PTs X [] (tT X.K cYes) := ⟨fun pins s σ H Q I h => by
  obtain ⟨B, ρ, b, ρ', R, e, k⟩ := h
  cases e
  exact pts_nil.run pins s σ H Q I (k B H (.refl R))⟩
theorem pts_1 {c : Expr} {ct : CT} (h : DT X c ct) : PTs X [c] (tT X.K ct) := pts_one h.pt
end

/-! ### a def's frame -/
/-- where one began: B, the heap, what may be written of it, the slots of the lists that the def was lent, the slots of those that are lent to be read -/
structure Ent where
  B : Addr → Prop
  H : Hp
  W : Addr → Prop
  io : Nat → Option Addr
  σ : L2.St
  ρ : Env
structure FrOk (K : PySem.W.Frag) (E : Ent) (B : Addr → Prop) (σ : L2.St) (H : Hp) (ρ : Env) : Prop where
  rel : Rel K B σ H ρ
  up : ∀ a, E.B a → B a
  new : ∀ a, B a → E.B a ∨ E.H a = none
  wb : ∀ a, E.W a → E.B a
  keep : ∀ a o, ¬ E.W a → E.H a = some o → H a = some o
  io : ∀ (j : Nat) a, E.io j = some a → (∃ ys, ρ[j]? = some (some (SV.own ys))) ∧ σ[j]? = some (some (.ref a))
  loc : ∀ a, OwnA σ ρ a → E.W a ∨ E.H a = none
  ro : ∀ (j : Nat) xs, ρ[j]? = some (some (SV.ro xs)) → E.ρ[j]? = some (some (SV.ro xs)) ∧ σ[j]? = E.σ[j]?
inductive Fl where
  | nx | bk | ct | rt (r : Val)
abbrev CS := Env → Option (Fl × Env)
/-- what a def hands back -/
def RetV (K : PySem.W.Frag) (E : Ent) (B' : Addr → Prop) (H' : Hp) : Val → V → Prop
  | .d x, v => Good K B' H' v x
  | .n x, v => ∃ a vs ds, x = .list ds ∧ v = .ref a ∧ (E.W a ∨ E.H a = none) ∧ (∀ j, E.io j ≠ some a) ∧ B' a ∧ H' a = some (.lst vs) ∧ GoodAll K B' H' vs ds
  | .b _, _ => False
/-- what is wanted of the ends of a statement -/
def EndOk (K : PySem.W.Frag) (E : Ent) (D : Ends) (f : Fl) (ρ' : Env) : Prop :=
  match f with
  | .nx => ∀ σ' B' H', FrOk K E B' σ' H' ρ' → D.nx σ' H'
  | .bk => ∀ σ' B' H', FrOk K E B' σ' H' ρ' → D.bk σ' H'
  | .ct => ∀ σ' B' H', FrOk K E B' σ' H' ρ' → D.ct σ' H'
  | .rt r => ∀ v σ' B' H', FrOk K E B' σ' H' ρ' → RetV K E B' H' r v → D.rt v H'
/-- io: the slots of the lists that the def was lent to change -/
def tS (K : PySem.W.Frag) (io : List Nat) (c : CS) : TS := fun D σ H => ∃ E B ρ f ρ', FrOk K E B σ H ρ ∧ (∀ (j : Nat) a, E.io j = some a → j ∈ io) ∧ c ρ = some (f, ρ') ∧ EndOk K E D f ρ'
structure DS (X : Cx) (io : List Nat) (st : Stmt) (c : CS) : Prop where
  ps : PS X st (tS X.K io c)
structure DSs (X : Cx) (io : List Nat) (st : List Stmt) (c : CS) : Prop where
  ps : PSs X st (tS X.K io c)
theorem PS.weak {X : Cx} {e : Stmt} {t t' : TS} (h : PS X e t) (k : ∀ D σ H, t' D σ H → t D σ H) : PS X e t' := ⟨fun pins s σ H D I w => h.run pins s σ H D I (k D σ H w)⟩
theorem PSs.weak {X : Cx} {e : List Stmt} {t t' : TS} (h : PSs X e t) (k : ∀ D σ H, t' D σ H → t D σ H) : PSs X e t' := ⟨fun pins s σ H D I w => h.run pins s σ H D I (k D σ H w)⟩
section
variable {K : PySem.W.Frag} {E : Ent} {B B' B'' B0 B1 B2 W : Addr → Prop} {σ σ' σa : L2.St} {H H0 H' H'' H1 H2 : Hp} {ρ ρ' ρ'' ρ1 ρ2 ρ3 ρa : Env} {r : Val} {v : V} {vs us : List V} {X : Cx} {a b : Addr} {ds es : List PyData}
theorem FrOk.unt (F : FrOk K E B σ H ρ) {a : Addr} (n : H a = none) : E.H a = none := by
  cases e : E.H a with
  | none => rfl
  | some o =>
    by_cases q : E.W a
    · obtain ⟨vs, z⟩ := F.rel.tr a (F.up a (F.wb a q))
      rw [n] at z
      cases z
    · rw [F.keep a o q e] at n
      cases n
theorem FrOk.ext (F : FrOk K E B σ H ρ) (x : Ext K B σ H ρ B' H' ρ') : FrOk K E B' σ H' ρ' where
  rel := x.rel
  up := fun a h => x.up a (F.up a h)
  new := fun a h => (x.new a h).elim (F.new a) fun z => .inr (F.unt z)
  wb := F.wb
  keep := fun a o n e => x.keep a o (fun z => (F.loc a z).elim n fun w => by rw [w] at e; cases e) (F.keep a o n e)
  io := fun j a h => by
    obtain ⟨h1, h2⟩ := F.io j a h
    exact ⟨(x.sl.own j).mpr h1, h2⟩
  loc := fun a o => F.loc a ((x.sl.ownA a).mp o)
  ro := fun j xs h => F.ro j xs (x.sl.ro.mp h)
/-- an expression, and then -/
theorem tE_fr {c : CE} {Q : VK} (F : FrOk K E B σ H ρ) (e : c ρ = some (r, ρ')) (k : ∀ v B' H', FrOk K E B' σ H' ρ' → RV K B' σ H H' ρ' r v → Q v H') : tE K c σ H Q :=
  ⟨B, ρ, r, ρ', F.rel, e, fun v B' H' x rv => k v B' H' (F.ext x) rv⟩
theorem tT_fr {c : CT} {q : Bool} {Q : Bool → Hp → Prop} (F : FrOk K E B σ H ρ) (e : c ρ = some (q, ρ')) (k : ∀ B' H', FrOk K E B' σ H' ρ' → Q q H') : tT K c σ H Q :=
  ⟨B, ρ, q, ρ', F.rel, e, fun B' H' x => k B' H' (F.ext x)⟩
variable {io : List Nat}

/-! ### blocks -/
def sNx : CS := fun ρ => some (.nx, ρ)
def sSeq (c d : CS) : CS := fun ρ => match c ρ with
  | some (.nx, ρ1) => d ρ1
  | z => z
theorem dss_nil : DSs X io [] sNx := by
  refine ⟨PSs.weak pss_nil fun D σ H h => ?_⟩
  obtain ⟨E, B, ρ, f, ρ', F, _, e, k⟩ := h
  cases e
  exact k σ B H F
theorem seq_read {c d : CS} : ∀ D σ H, tS K io (sSeq c d) D σ H → tSeq (tS K io c) (tS K io d) D σ H := by
  intro D σ H h
  obtain ⟨E, B, ρ, f, ρ', F, hio, e, k⟩ := h
  unfold sSeq at e
  split at e
  · rename_i ρ1 e1
    exact ⟨E, B, ρ, .nx, ρ1, F, hio, e1, fun σ' B' H' F' => ⟨E, B', ρ1, f, ρ', F', hio, e, k⟩⟩
  · rename_i z q
    refine ⟨E, B, ρ, f, ρ', F, hio, e, ?_⟩
    cases f with
    | nx => exact (q _ e).elim
    | bk => exact k
    | ct => exact k
    | rt r => exact k
theorem dss_cons {st : Stmt} {rest : List Stmt} {c d : CS} (h1 : DS X io st c) (h2 : DSs X io rest d) : DSs X io (st :: rest) (sSeq c d) := ⟨PSs.weak (pss_cons h1.ps h2.ps) seq_read⟩
theorem ds_pass {pos : Pos} : DS X io (.Pass pos) sNx := by
  refine ⟨PS.weak ps_pass fun D σ H h => ?_⟩
  obtain ⟨E, B, ρ, f, ρ', F, _, e, k⟩ := h
  cases e
  exact k σ B H F
def sBk : CS := fun ρ => some (.bk, ρ)
def sCt : CS := fun ρ => some (.ct, ρ)
theorem ds_break {pos : Pos} : DS X io (.Break pos) sBk := by
  refine ⟨PS.weak ps_break fun D σ H h => ?_⟩
  obtain ⟨E, B, ρ, f, ρ', F, _, e, k⟩ := h
  cases e
  exact k σ B H F
theorem ds_continue {pos : Pos} : DS X io (.Continue pos) sCt := by
  refine ⟨PS.weak ps_continue fun D σ H h => ?_⟩
  obtain ⟨E, B, ρ, f, ρ', F, _, e, k⟩ := h
  cases e
  exact k σ B H F
/-- a statement that is never reached -/
def sNo : CS := fun _ => none
theorem ds_never {st : Stmt} : DS X io st sNo := by
  refine ⟨PS.weak ps_never fun D σ H h => ?_⟩
  obtain ⟨E, B, ρ, f, ρ', F, _, e, k⟩ := h
  cases e
def sEx (c : CE) : CS := fun ρ => match c ρ with
  | some (_, ρ1) => some (.nx, ρ1)
  | none => none
theorem ds_expr {e : Expr} {c : CE} {pos : Pos} (h : DE X e c) (hs : swapsWith e none pos.line X.env = pure false) : DS X io (.Expr e pos) (sEx c) := by
  refine ⟨PS.weak (ps_expr h.pe hs) fun D σ H h => ?_⟩
  obtain ⟨E, B, ρ, f, ρ', F, _, e, k⟩ := h
  unfold sEx at e
  split at e
  · rename_i r ρ1 e1
    cases e
    exact tE_fr F e1 fun v B' H' F' _ => k σ B' H' F'
  · cases e
def sIf (c : CT) (t u : CS) : CS := fun ρ => match c ρ with
  | some (true, ρ1) => t ρ1
  | some (false, ρ1) => u ρ1
  | none => none
theorem ds_if {c : Expr} {p q : List Stmt} {ct : CT} {t u : CS} {pos : Pos} (hc : DT X c ct) (ha : DSs X io p t) (hb : DSs X io q u) : DS X io (.If c p q pos) (sIf ct t u) := by
  refine ⟨PS.weak (ps_if hc.pt ha.ps hb.ps) fun D σ H h => ?_⟩
  obtain ⟨E, B, ρ, f, ρ', F, hio, e, k⟩ := h
  unfold sIf at e
  split at e
  · rename_i ρ1 e1
    exact tT_fr F e1 fun B' H' F' => iteT ⟨E, B', ρ1, f, ρ', F', hio, e, k⟩
  · rename_i ρ1 e1
    exact tT_fr F e1 fun B' H' F' => iteF ⟨E, B', ρ1, f, ρ', F', hio, e, k⟩
  · cases e
/-- return e -/
def retV (io : List Nat) (ρ : Env) : Val → Option Val
  | .d x => some (.d x)
  | .n x => some (.n x)
  | .b i => match ρ[i]? with
    | some (some (.own xs)) => if io.contains i then none else some (.n (.list xs))
    | _ => none
def sRet (io : List Nat) (c : CE) : CS := fun ρ => do
  let (r, ρ1) ← c ρ
  let r' ← retV io ρ1 r
  pure (.rt r', ρ1)
theorem ds_ret {e : Expr} {c : CE} {pos : Pos} (h : DE X e c) : DS X io (.Return (some e) pos) (sRet io c) := by
  refine ⟨PS.weak (ps_ret h.pe) fun D σ H h => ?_⟩
  obtain ⟨E, B, ρ, f, ρ', F, hio, e, k⟩ := h
  unfold sRet at e
  simp only [Option.bind_eq_bind, Option.bind_eq_some_iff, Option.pure_def, Option.some.injEq] at e
  obtain ⟨⟨r, ρ1⟩, e1, r', e2, e3⟩ := e
  cases e3
  refine tE_fr F e1 fun v B' H' F' rv => k v σ B' H' F' ?_
  cases r with
  | d x =>
    cases e2
    exact rv
  | n x =>
    cases e2
    obtain ⟨a, vs, ds, rfl, rfl, n, b, no, q, g⟩ := rv
    refine ⟨a, vs, ds, rfl, rfl, .inr (F.unt n), fun j z => ?_, b, q, g⟩
    obtain ⟨⟨ys, h1⟩, h2⟩ := F'.io j a z
    exact no ⟨j, ys, h1, h2⟩
  | b i =>
    unfold retV at e2
    dsimp only at e2
    split at e2
    · rename_i xs q
      split at e2
      · cases e2
      · rename_i hi
        cases e2
        obtain ⟨a, e3, rfl, _⟩ := rv
        obtain ⟨a', vs, e4, b, e5, g⟩ := F'.rel.own i xs q
        rw [e3] at e4
        cases e4
        refine ⟨a, vs, xs, rfl, rfl, F'.loc a ⟨i, xs, q, e3⟩, fun j z => ?_, b, e5, g⟩
        obtain ⟨⟨ys, h1⟩, h2⟩ := F'.io j a z
        have := F'.rel.dis i j _ _ a q h1 e3 h2
        subst this
        exact hi (by simpa using hio i a z)
    · cases e2
theorem ds_retN {pos : Pos} : DS X io (.Return none pos) (sRet io (cCst .none)) := by
  refine ⟨PS.weak ps_retN fun D σ H h => ?_⟩
  obtain ⟨E, B, ρ, f, ρ', F, hio, e, k⟩ := h
  cases e
  exact k .non σ B H F .non
end
end DL

/-! DL9: assignments, targets, methods of own lists. -/
namespace DL
open PySem PySem.Spec PyProof.Rows L2
section
variable {K : PySem.W.Frag} {B B' B'' B1 B2 W : Addr → Prop} {σ σ' σa : L2.St} {H H0 H' H'' H1 H2 : Hp} {ρ ρ' ρ'' ρ1 ρ2 ρ3 ρa : Env} {r : Val} {v : V} {vs us ws : List V} {X : Cx} {a b : Addr} {ds es xs ys : List PyData} {io ow : List Nat} {i : Nat} {E : Ent}

/-! ### a frame's slot is set -/
theorem set_get {ρ : Env} {i j : Nat} {z : Option SV} {sv : SV} (h : (ρ.set i z)[j]? = some (some sv)) : (j = i ∧ z = some sv ∧ i < ρ.length) ∨ (j ≠ i ∧ ρ[j]? = some (some sv)) := by
  by_cases e : i = j
  · subst e
    by_cases hl : i < ρ.length
    · rw [List.getElem?_set_self hl] at h
      exact .inl ⟨rfl, Option.some.inj h, hl⟩
    · rw [List.getElem?_eq_none (by rw [List.length_set]; omega)] at h
      cases h
  · rw [List.getElem?_set_ne e] at h
    exact .inr ⟨fun w => e w.symm, h⟩
/-- data -/
theorem FrOk.put (F : FrOk K E B σ H ρ) (hi : ∀ a, E.io i ≠ some a) {x : PyData} (g : Good K B H v x) : FrOk K E B (σ.set i (some v)) H (ρ.set i (some (.d x))) where
  rel := F.rel.put' g
  up := F.up
  new := F.new
  wb := F.wb
  keep := F.keep
  io := fun j a h => by
    have z : i ≠ j := fun z => hi a (by rw [z]; exact h)
    rw [List.getElem?_set_ne z, List.getElem?_set_ne z]
    exact F.io j a h
  loc := fun a ⟨j, xs, h1, h2⟩ => by
    rcases set_get h1 with ⟨_, e, _⟩ | ⟨z, h1⟩
    · cases e
    · rw [List.getElem?_set_ne (Ne.symm z)] at h2
      exact F.loc a ⟨j, xs, h1, h2⟩
  ro := fun j xs h => by
    rcases set_get h with ⟨_, e, _⟩ | ⟨z, h⟩
    · cases e
    · rw [List.getElem?_set_ne (Ne.symm z)]
      exact F.ro j xs h
/-- a new list -/
theorem FrOk.putOwn (F : FrOk K E B σ H ρ) (hi : ∀ a, E.io i ≠ some a) (hro : ∀ (j : Nat) ws, ρ[j]? = some (some (SV.ro ws)) → ∃ c us, σ[j]? = some (some (.ref c)) ∧ ((c ≠ a ∧ SqR K (OwnA σ ρ) H c us) ∨ KLst K c us) ∧ GoodAll K B H us ws)
    (n0 : E.H a = none) (b : B a) (no : ¬ OwnA σ ρ a) (e : H a = some (.lst vs)) (g : GoodAll K B H vs xs) :
    FrOk K E B (σ.set i (some (.ref a))) H (ρ.set i (some (.own xs))) := by
  have ownA3 : ∀ c, OwnA (σ.set i (some (.ref a))) (ρ.set i (some (.own xs))) c → c = a ∨ OwnA σ ρ c := fun c ⟨j, us, h1, h2⟩ => by
    rcases set_get h1 with ⟨rfl, _, hl⟩ | ⟨z, h1⟩
    · rw [List.getElem?_set_self (by rw [← F.rel.len]; exact hl)] at h2
      cases h2
      exact .inl rfl
    · rw [List.getElem?_set_ne (Ne.symm z)] at h2
      exact .inr ⟨j, us, h1, h2⟩
  refine ⟨⟨fun j y h => ?_, fun j us h => ?_, fun j us h => ?_, fun j k us ws c h1 h2 h3 h4 => ?_, F.rel.tr, by rw [List.length_set, List.length_set]; exact F.rel.len⟩, F.up, F.new, F.wb, F.keep, fun j c h => ?_, fun c o => ?_, fun j us h => ?_⟩
  · rcases set_get h with ⟨_, e, _⟩ | ⟨z, h⟩
    · cases e
    · rw [List.getElem?_set_ne (Ne.symm z)]
      exact F.rel.dat j y h
  · rcases set_get h with ⟨rfl, q, hl⟩ | ⟨z, h⟩
    · cases q
      exact ⟨a, vs, List.getElem?_set_self (by rw [← F.rel.len]; exact hl), b, e, g⟩
    · rw [List.getElem?_set_ne (Ne.symm z)]
      exact F.rel.own j us h
  · rcases set_get h with ⟨_, q, _⟩ | ⟨z, h⟩
    · cases q
    · rw [List.getElem?_set_ne (Ne.symm z)]
      obtain ⟨c, us', e3, s, gg⟩ := hro j us h
      refine ⟨c, us', e3, ?_, gg⟩
      rcases s with ⟨q, ⟨n, r⟩ | s⟩ | s
      · exact .inl ⟨fun o => (ownA3 c o).elim q n, r⟩
      · exact .inr s
      · exact .inr s
  · rcases set_get h1 with ⟨p1, _, hl⟩ | ⟨z1, p1⟩
    · rcases set_get h2 with ⟨p2, _⟩ | ⟨z2, p2⟩
      · rw [p1, p2]
      · subst p1
        rw [List.getElem?_set_self (by rw [← F.rel.len]; exact hl)] at h3
        cases h3
        rw [List.getElem?_set_ne (Ne.symm z2)] at h4
        exact (no ⟨k, ws, p2, h4⟩).elim
    · rw [List.getElem?_set_ne (Ne.symm z1)] at h3
      rcases set_get h2 with ⟨p2, _, hl⟩ | ⟨z2, p2⟩
      · subst p2
        rw [List.getElem?_set_self (by rw [← F.rel.len]; exact hl)] at h4
        cases h4
        exact (no ⟨j, us, p1, h3⟩).elim
      · rw [List.getElem?_set_ne (Ne.symm z2)] at h4
        exact F.rel.dis j k us ws c p1 p2 h3 h4
  · have z : i ≠ j := fun z => hi c (by rw [z]; exact h)
    rw [List.getElem?_set_ne z, List.getElem?_set_ne z]
    exact F.io j c h
  · rcases ownA3 c o with rfl | o
    · exact .inr n0
    · exact F.loc c o
  · rcases set_get h with ⟨_, e, _⟩ | ⟨z, h⟩
    · cases e
    · rw [List.getElem?_set_ne (Ne.symm z)]
      exact F.ro j us h

/-! ### x = e -/
/-- own: the slot's lists are the def's own -/
def asgV (own : Bool) : Val → Option SV
  | .d x => match own with
    | true => none
    | false => some (.d x)
  | .n x => match own with
    | true => argN x
    | false => some (.d x)
  | .b _ => none
def sSet (io ow : List Nat) (i : Nat) (c : CE) : CS := fun ρ => do
  let (r, ρ1) ← c ρ
  let sv ← asgV (ow.contains i) r
  if io.contains i then none else pure (.nx, ρ1.set i (some sv))
theorem asgV_inv {own : Bool} {sv : SV} (h : asgV own r = some sv) : (∃ x, keepV r = some x ∧ sv = .d x) ∨ ∃ xs, r = .n (.list xs) ∧ sv = .own xs := by
  cases r with
  | d x =>
    cases own with
    | true => cases h
    | false => cases h; exact .inl ⟨x, rfl, rfl⟩
  | n x =>
    cases own with
    | true =>
      cases x with
      | list xs => cases h; exact .inr ⟨xs, rfl, rfl⟩
      | _ => cases h
    | false => cases h; exact .inl ⟨x, rfl, rfl⟩
  | b i => cases h
theorem FrOk.dn (F : FrOk K E B σ H ρ) (x : Ext K B σ H ρ B' H' ρ') : FrOk K E B σ H' ρ' := F.ext (x.dn F.rel)
/-- the store, behind the value -/
theorem asg_store (F : FrOk K E B σ H ρ) (hi : ∀ a, E.io i ≠ some a) {own : Bool} {sv : SV} (e : asgV own r = some sv) (x : Ext K B σ H ρ B' H' ρ1) (rv : RV K B' σ H H' ρ1 r v) :
    ∃ B2, FrOk K E B2 (σ.set i (some v)) H' (ρ1.set i (some sv)) := by
  rcases asgV_inv e with ⟨y, e1, rfl⟩ | ⟨xs, rfl, rfl⟩
  · exact ⟨B, (F.dn x).put hi (rv.good F.rel x e1)⟩
  · obtain ⟨a, vs, ds, e1, rfl, n, b, no, q, g⟩ := rv
    cases e1
    refine ⟨B', (F.ext x).putOwn hi (fun j ws h1 => ?_) (F.unt n) b no q g⟩
    obtain ⟨c, us, h3, s, g'⟩ := F.rel.ro j ws (x.sl.ro.mp h1)
    refine ⟨c, us, h3, ?_, x.goodAll F.rel g'⟩
    rcases s with ⟨n', r⟩ | s
    · refine .inl ⟨fun z => Rd.someD r (by rw [z]; exact n), .inl ⟨fun o => n' ((x.sl.ownA c).mp o), Rd.keepD (fun o w => x.keep c o n' w) r⟩⟩
    · exact .inr s
theorem set_read {c : CE} {te : TE} (kt : ∀ σ H Q, tE K c σ H Q → te σ H Q) : ∀ D σ H, tS K io (sSet io ow i c) D σ H → tAsg te (gName i) D σ H := by
  intro D σ H h
  obtain ⟨E, B, ρ, f, ρ', F, hio, e, k⟩ := h
  unfold sSet at e
  simp only [Option.bind_eq_bind, Option.bind_eq_some_iff, Option.pure_def] at e
  obtain ⟨⟨r, ρ1⟩, e1, sv, e2, e3⟩ := e
  split at e3
  · cases e3
  · rename_i ni
    cases e3
    refine kt σ H _ ⟨B, ρ, r, ρ1, F.rel, e1, fun v B' H' x rv => ?_⟩
    obtain ⟨B2, F2⟩ := asg_store F (fun a z => ni (by simpa using hio i a z)) e2 x rv
    exact k _ B2 H' F2
theorem ds_set {x : Str} {e : Expr} {c : CE} {pos pos' : Pos} (hN : X.N.Nodup) (hi : X.N[i]? = some x) (hx : Loc X.env.scope x) (hf : X.fn x = true ∨ X.env.scope.names.lookup x = some .local) (he : DE X e c) (hs : swapsWith e (some (.Name x pos')) pos.line X.env = pure false) :
    DS X io (.Assign [.Name x pos'] e pos) (sSet io ow i c) := ⟨PS.weak (ps_set hN hi hx he.pe hs hf) (set_read fun _ _ _ w => w)⟩
theorem ds_setLc {y : Str} {py : Pos} {elt tg iter : Expr} {ifs : List Expr} {scope : Scope} {own : List (Str × Nat)} {pos spos : Pos} {ci : CI} {b : Bnd} {ct : CT} {ce : CE} (hc : X.calm = true) (hN : X.N.Nodup) (hy : X.N[i]? = some y) (hyl : X.env.scope.names.lookup y = some .local)
    (hsw : swapsWith (.ListComp elt [⟨tg, iter, ifs, 0⟩] scope pos) (some (.Name y py)) spos.line X.env = pure true) (hi : DI X tg iter ci) (ok : BlkOk X.N X.env.scope scope own) (h : Blk X scope tg ifs elt b ct ce)
    (hsub : ∀ j ∈ b.slots, j ∈ own.map (·.2)) (hs : ∀ x, foldedSetIterable iter X.env x = pure x) : DS X io (.Assign [.Name y py] (.ListComp elt [⟨tg, iter, ifs, 0⟩] scope pos) spos) (sSet io ow i (cLC (own.map (·.2)) ci b ct ce)) :=
  ⟨PS.weak (ps_setLc hc hN hy hyl hsw hi.pi ok (fun s H C cl fp => (h.g s H C cl fp).pg) h.t (fun s H C cl fp => (h.e s H C cl fp).pe) hs) (set_read (lc_read hsub))⟩

/-! ### own lists changed -/
theorem Ext.mut (R : Rel K B σ H ρ) (e : ρ[i]? = some (some (.own xs))) (ea : σ[i]? = some (some (.ref a))) (g : GoodAll K B H ws ys) : Ext K B σ H ρ B (upd H a (.lst ws)) (ρ.set i (some (.own ys))) := by
  obtain ⟨a', vs, e1, b, e2, _⟩ := R.own i xs e
  rw [ea] at e1
  cases e1
  have hl : i < ρ.length := (List.getElem?_eq_some_iff.mp e).1
  have oa : OwnA σ ρ a := ⟨i, xs, e, ea⟩
  have kb : ∀ c o, ¬ B c → H c = some o → upd H a (.lst ws) c = some o := fun c o n w => by
    rw [upd_ne fun z => n (by rw [z]; exact b)]
    exact w
  have ko : ∀ c o, ¬ OwnA σ ρ c → H c = some o → upd H a (.lst ws) c = some o := fun c o n w => by
    rw [upd_ne fun z => n (by rw [z]; exact oa)]
    exact w
  have sl : Slots ρ (ρ.set i (some (.own ys))) := fun j => by
    by_cases z : i = j
    · subst z
      exact .inr ⟨xs, ys, e, List.getElem?_set_self hl⟩
    · exact .inl (List.getElem?_set_ne z)
  refine ⟨fun _ h => h, fun _ h => .inl h, ⟨fun j y h => ?_, fun j us h => ?_, fun j us h => ?_, fun j k us zs c h1 h2 h3 h4 => ?_, fun c h => ?_, by rw [List.length_set]; exact R.len⟩, sl, ko⟩
  · obtain ⟨v, e1, g1⟩ := R.dat j y (sl.d.mp h)
    exact ⟨v, e1, g1.mv (fun _ z => .inl z) kb⟩
  · rcases set_get h with ⟨rfl, q, _⟩ | ⟨z, h⟩
    · cases q
      exact ⟨a, ws, ea, b, upd_same, g.mv (fun _ z => .inl z) kb⟩
    · obtain ⟨c, us', e1, bc, e3, g3⟩ := R.own j us h
      have ca : c ≠ a := fun w => by
        subst w
        exact z (R.dis j i _ _ _ h e e1 ea)
      exact ⟨c, us', e1, bc, by rw [upd_ne ca]; exact e3, g3.mv (fun _ z => .inl z) kb⟩
  · obtain ⟨c, us', e1, s, g3⟩ := R.ro j us (sl.ro.mp h)
    exact ⟨c, us', e1, s.keep (fun c o => .inl ((sl.ownA c).mp o)) ko, g3.mv (fun _ z => .inl z) kb⟩
  · obtain ⟨us', q1⟩ := (sl.own j).mp ⟨us, h1⟩
    obtain ⟨zs', q2⟩ := (sl.own k).mp ⟨zs, h2⟩
    exact R.dis j k _ _ c q1 q2 h3 h4
  · by_cases z : c = a
    · exact ⟨ws, by rw [z, upd_same]⟩
    · rw [upd_ne z]
      exact R.tr c h
/-- a method of an own list: from what it holds and the arguments (kept data) to what it holds then and the answer -/
abbrev GM := List PyData → List PyData → Option (List PyData × PyData)
def cMth (g : GM) (i : Nat) (cs : CA) : CE := fun ρ => match ρ[i]? with
  | some (some (.own _)) => do
    let (rs, ρ1) ← cs ρ
    let zs ← keepAll rs
    match ρ1[i]? with
    | some (some (.own xs)) => do
      let (ys, x) ← g xs zs
      pure (.d x, ρ1.set i (some (.own ys)))
    | _ => none
  | _ => none
def SoundM (K : PySem.W.Frag) (g : GM) (r : V → List V → Hp → VK → Prop) : Prop :=
  ∀ (B : Addr → Prop) (H : Hp) (a : Addr) (vs us : List V) (xs zs ys : List PyData) (x : PyData) (Q : VK), B a → H a = some (.lst vs) → GoodAll K B H vs xs → GoodAll K B H us zs → g xs zs = some (ys, x) →
    (∀ v ws, GoodAll K B H ws ys → Good K B H v x → Q v (upd H a (.lst ws))) → r (.ref a) us H Q
theorem mth_read {g : GM} {r : V → List V → Hp → VK → Prop} {cs : CA} (s : SoundM K g r) : ∀ (σ : L2.St) (H : Hp) (Q : VK), tE K (cMth g i cs) σ H Q → tBM K "list" r (tE K (cVar i)) (tAs K cs) σ H Q := by
  intro σ H Q h
  obtain ⟨B, ρ, z, ρ', R, e, k⟩ := h
  unfold cMth at e
  split at e
  · rename_i xs0 e0
    simp only [Option.bind_eq_bind, Option.bind_eq_some_iff] at e
    obtain ⟨⟨rs, ρ1⟩, e1, zs, e2, e3⟩ := e
    split at e3
    · rename_i xs ex
      simp only [Option.bind_eq_some_iff, Option.pure_def, Option.some.injEq] at e3
      obtain ⟨⟨ys, x⟩, e4, e5⟩ := e3
      cases e5
      refine ⟨B, ρ, .b i, ρ, R, by unfold cVar; rw [e0], fun v B0 H0 x0 v0 => ?_⟩
      obtain ⟨a, ea, rfl, _⟩ := v0
      obtain ⟨a', us0, ea', _, hs0, _⟩ := x0.rel.own i xs0 e0
      rw [ea] at ea'
      cases ea'
      refine ⟨Or.inl ⟨rfl, us0, .of hs0⟩, B0, ρ, rs, ρ1, x0.rel, e1, fun us B1 H1 x1 v1 => ?_⟩
      have gz := v1.good x0.rel x1 e2
      have xd := x1.dn x0.rel
      obtain ⟨a', vs, ea', b, hs, gx⟩ := xd.rel.own i xs ex
      rw [ea] at ea'
      cases ea'
      refine s B0 H1 a vs us xs zs ys x Q b hs gx gz e4 fun v ws gw gv => ?_
      have xm := Ext.mut xd.rel ex ea gw
      have xx := x0.trans R (xd.trans x0.rel xm)
      exact k v B0 _ xx (gv.mv (fun _ z => .inl z) fun c o n w => by rw [upd_ne fun z => n (by rw [z]; exact b)]; exact w)
    · cases e3
  · cases e
def gAppend : GM := fun xs zs => match zs with
  | [z] => if xs.length < sizeLine then some (xs ++ [z], .none) else none
  | _ => none
theorem sound_append : SoundM K gAppend rAppend := by
  intro B H a vs us xs zs ys x Q b hs gx gz e k
  unfold gAppend at e
  split at e
  · rename_i z
    split at e
    · rename_i hl
      cases e
      cases gz with
      | cons g t =>
        cases t
        exact ⟨a, vs, _, rfl, rfl, hs, by rw [gx.len]; exact hl, k _ _ (gx.app (.cons g .nil)) .non⟩
    · cases e
  · cases e
def gPopAt : GM := fun xs zs => match zs with
  | [.int k] => if -(2 ^ 63) ≤ k ∧ k < 2 ^ 63 then (match seqIndex? k xs.length with
    | some j => match xs[j]? with
      | some y => some (xs.eraseIdx j, y)
      | none => none
    | none => none) else none
  | _ => none
theorem sound_popAt : SoundM K gPopAt rPopAt := by
  intro B H a vs us xs zs ys x Q b hs gx gz e k
  unfold gPopAt at e
  split at e
  · rename_i i
    split at e
    · rename_i hl
      split at e
      · rename_i j hj
        split at e
        · rename_i y hy
          cases e
          cases gz with
          | cons g t =>
            cases t
            cases g
            obtain ⟨v, hv, gv⟩ := gx.get hy
            exact ⟨a, vs, i, j, v, rfl, rfl, hs, hl.1, hl.2, by rw [gx.len]; exact hj, hv, k _ _ (gx.erase j) gv⟩
        · cases e
      · cases e
    · cases e
  · cases e
theorem de_append {o : Expr} {e : Expr} {es : List Expr} {cs : CA} {apos cpos : Pos} (ho : DE X o (cVar i)) (ha : DAs X (e :: es) cs) (hbase : attributeBase o "append" X.env (eval o X.env) = eval o X.env)
    (hfew : ((backTo cpos (starEach (e :: es) X.env)).all (fun x => !x.1) && (backToKw cpos (keywordEach [] X.env)).all (fun x => x.1.isSome) && decide ((e :: es).length + ([] : List Keyword).length + (if ([] : List Keyword).isEmpty then 0 else 1) < 30)) = true)
    (hline : (apos.endLine == cpos.line) = true) (hs : starEach (e :: es) X.env = (false, eval e X.env) :: starEach es X.env) (hplain : (backTo cpos (starEach es X.env)).any (·.1) = false) :
    DE X (.Call (.Attribute o "append" apos) (e :: es) [] cpos) (cMth gAppend i cs) :=
  ⟨PE.weak (pe_bm PySem.F.plainAttrs_list PySem.F.slot_list_append PySem.F.type_list_append mt_append ho.pe ha.pa hbase hfew hline hs hplain) (mth_read sound_append)⟩
theorem de_popAt {o : Expr} {e : Expr} {es : List Expr} {cs : CA} {apos cpos : Pos} (ho : DE X o (cVar i)) (ha : DAs X (e :: es) cs) (hbase : attributeBase o "pop" X.env (eval o X.env) = eval o X.env)
    (hfew : ((backTo cpos (starEach (e :: es) X.env)).all (fun x => !x.1) && (backToKw cpos (keywordEach [] X.env)).all (fun x => x.1.isSome) && decide ((e :: es).length + ([] : List Keyword).length + (if ([] : List Keyword).isEmpty then 0 else 1) < 30)) = true)
    (hline : (apos.endLine == cpos.line) = true) (hs : starEach (e :: es) X.env = (false, eval e X.env) :: starEach es X.env) (hplain : (backTo cpos (starEach es X.env)).any (·.1) = false) :
    DE X (.Call (.Attribute o "pop" apos) (e :: es) [] cpos) (cMth gPopAt i cs) :=
  ⟨PE.weak (pe_bm PySem.F.plainAttrs_list PySem.F.slot_list_pop PySem.F.type_list_pop mt_popAt ho.pe ha.pa hbase hfew hline hs hplain) (mth_read sound_popAt)⟩
end
end DL

/-! DL10: targets of statements, parallel assignments, for and while. -/
namespace DL
open PySem PySem.Spec PyProof.Rows L2
section
variable {K : PySem.W.Frag} {B B' B'' B1 B2 W : Addr → Prop} {σ σ' σa σ1 σ2 : L2.St} {H H0 H' H'' H1 H2 : Hp} {ρ ρ' ρ'' ρ1 ρ2 ρ3 ρa : Env} {r : Val} {v : V} {vs us ws : List V} {X : Cx} {a b : Addr} {ds es xs ys : List PyData} {io ow : List Nat} {i : Nat} {E : Ent} {rs : List Val} {svs : List SV}

/-! ### a, b = x, y -/
theorem Ext.mid (R : Rel K B σ H ρ) (x : Ext K B σ H ρ B' H' ρ') (up : ∀ a, B a → B2 a) (dn : ∀ a, B2 a → B' a) : Ext K B σ H ρ B2 H' ρ' := by
  refine ⟨up, fun a h => x.new a (dn a h), ⟨fun i y e => ?_, fun i xs e => ?_, fun i xs e => ?_, x.rel.dis, fun a h => x.rel.tr a (dn a h), x.rel.len⟩, x.sl, x.keep⟩
  · obtain ⟨v, e1, g⟩ := x.rel.dat i y e
    exact ⟨v, e1, g.mv (fun a z => .inl (dn a z)) fun _ _ _ q => q⟩
  · obtain ⟨a, vs, e1, b, h, g⟩ := x.rel.own i xs e
    have o : OwnA σ ρ a := (x.sl.ownA a).mp ⟨i, xs, e, e1⟩
    exact ⟨a, vs, e1, up a (R.ownB o), h, g.mv (fun a z => .inl (dn a z)) fun _ _ _ q => q⟩
  · obtain ⟨a, vs, e1, q, g⟩ := x.rel.ro i xs e
    exact ⟨a, vs, e1, q, g.mv (fun a z => .inl (dn a z)) fun _ _ _ q => q⟩
/-- what a slot is to be given -/
def Item (K : PySem.W.Frag) (H0 : Hp) (B2 : Addr → Prop) (H' : Hp) (v : V) : SV → Prop
  | .d y => Good K B2 H' v y
  | .own xs => ∃ a us, v = .ref a ∧ H0 a = none ∧ B2 a ∧ H' a = some (.lst us) ∧ GoodAll K B2 H' us xs
  | .ro _ => False
/-- the values' addresses that become own lists -/
def OwnN : List V → List SV → Addr → Prop
  | .ref b :: vs, .own _ :: svs, a => a = b ∨ OwnN vs svs a
  | _ :: vs, _ :: svs, a => OwnN vs svs a
  | _, _, _ => False
theorem ownN_up {sv : SV} {a : Addr} (h : OwnN vs svs a) : OwnN (v :: vs) (sv :: svs) a := by
  cases v <;> cases sv <;> first | exact h | exact .inr h
theorem ownN_d {y : PyData} {a : Addr} (h : OwnN (v :: vs) (.d y :: svs) a) : OwnN vs svs a := by
  cases v <;> exact h
inductive Items (K : PySem.W.Frag) (H0 : Hp) (B2 : Addr → Prop) (H' : Hp) : List V → List SV → Prop
  | nil : Items K H0 B2 H' [] []
  | cons {v : V} {vs : List V} {sv : SV} {svs : List SV} : Item K H0 B2 H' v sv → (∀ xs a, sv = .own xs → v = .ref a → ¬ OwnN vs svs a) → Items K H0 B2 H' vs svs → Items K H0 B2 H' (v :: vs) (sv :: svs)
def setAll {α : Type} : List Nat → List α → List (Option α) → List (Option α)
  | i :: is, x :: xs, ρ => setAll is xs (ρ.set i (some x))
  | _, _, ρ => ρ
theorem asg_all : ∀ (is : List Nat) {vs : List V} {svs : List SV} {σ : L2.St} {ρ : Env}, FrOk K E B2 σ H' ρ → (∀ i ∈ is, ∀ a, E.io i ≠ some a) → Items K H0 B2 H' vs svs → (∀ a, H0 a = none → E.H a = none) →
    (∀ a, OwnN vs svs a → ¬ OwnA σ ρ a) → (∀ (j : Nat) us c, ρ[j]? = some (some (SV.ro us)) → σ[j]? = some (some (.ref c)) → H0 c ≠ none ∨ ∃ zs, KLst K c zs ∧ GoodAll K B2 H' zs us) →
    FrOk K E B2 (setAll is vs σ) H' (setAll is svs ρ)
  | [], _, _, _, _, F, _, _, _, _, _ => F
  | _ :: _, [], _, _, _, F, _, it, _, _, _ => by
    cases it
    exact F
  | i :: is, v :: vs, svs, σ, ρ, F, hi, it, hE, no, ro => by
    cases it with
    | cons h ne t =>
      rename_i sv svs
      have hi0 := hi i List.mem_cons_self
      unfold setAll
      cases sv with
      | d y =>
        refine asg_all is (F.put hi0 h) (fun j m => hi j (List.mem_cons_of_mem _ m)) t hE (fun a m o => ?_) fun j us c e1 e2 => ?_
        · obtain ⟨j, xs, e1, e2⟩ := o
          rcases set_get e1 with ⟨_, q, _⟩ | ⟨z, e1⟩
          · cases q
          · rw [List.getElem?_set_ne (Ne.symm z)] at e2
            exact no a (ownN_up m) ⟨j, xs, e1, e2⟩
        · rcases set_get e1 with ⟨_, q, _⟩ | ⟨z, e1⟩
          · cases q
          · rw [List.getElem?_set_ne (Ne.symm z)] at e2
            exact ro j us c e1 e2
      | own xs =>
        obtain ⟨a, us, rfl, n, b, q, g⟩ := h
        refine asg_all is (F.putOwn hi0 (fun j ws e1 => ?_) (hE a n) b (no a (.inl rfl)) q g) (fun j m => hi j (List.mem_cons_of_mem _ m)) t hE (fun c m o => ?_) fun j us c e1 e2 => ?_
        · obtain ⟨c, us', e2, s, g'⟩ := F.rel.ro j ws e1
          rcases ro j ws c e1 e2 with w | ⟨zs, w, w2⟩
          · exact ⟨c, us', e2, .inl ⟨fun z => w (by rw [z]; exact n), s⟩, g'⟩
          · exact ⟨c, zs, e2, .inr w, w2⟩
        · obtain ⟨j, zs, e1, e2⟩ := o
          rcases set_get e1 with ⟨rfl, _, hl⟩ | ⟨z, e1⟩
          · rw [List.getElem?_set_self (by rw [← F.rel.len]; exact hl)] at e2
            cases e2
            exact ne xs _ rfl rfl m
          · rw [List.getElem?_set_ne (Ne.symm z)] at e2
            exact no c (ownN_up m) ⟨j, zs, e1, e2⟩
        · rcases set_get e1 with ⟨_, w, _⟩ | ⟨z, e1⟩
          · cases w
          · rw [List.getElem?_set_ne (Ne.symm z)] at e2
            exact ro j us c e1 e2
      | ro xs => exact h.elim
def asgAll (ow : List Nat) : List Nat → List Val → Option (List SV)
  | [], [] => some []
  | i :: is, r :: rs => do
    let sv ← asgV (ow.contains i) r
    let svs ← asgAll ow is rs
    pure (sv :: svs)
  | _, _ => none
theorem asgAll_cons {is : List Nat} {zs : List SV} (h : asgAll ow (i :: is) (r :: rs) = some zs) : ∃ sv svs, asgV (ow.contains i) r = some sv ∧ asgAll ow is rs = some svs ∧ zs = sv :: svs := by
  simp only [asgAll, Option.bind_eq_bind, Option.bind_eq_some_iff, Option.pure_def, Option.some.injEq] at h
  obtain ⟨sv, h1, svs, h2, rfl⟩ := h
  exact ⟨sv, svs, h1, h2, rfl⟩
theorem ownN_mem : ∀ {is : List Nat} {rs : List Val} {vs : List V} {svs : List SV}, RVs K B' σ H H' ρ' rs vs → asgAll ow is rs = some svs → ∀ {a : Addr}, OwnN vs svs a → B' a ∧ H a = none ∧ ¬ OwnA σ ρ' a ∧ ∀ v, Apart v rs vs → v ≠ .ref a
  | [], [], _, _, .nil, e, a, h => by
    cases e
    exact h.elim
  | i :: is, r :: rs, _, _, .cons rv ap t, e, a, h => by
    obtain ⟨sv, svs, e1, e2, rfl⟩ := asgAll_cons e
    rcases asgV_inv e1 with ⟨y, q, rfl⟩ | ⟨xs, rfl, rfl⟩
    · obtain ⟨h1, h2, h4, h3⟩ := ownN_mem t e2 (ownN_d h)
      refine ⟨h1, h2, h4, fun u w => h3 u ?_⟩
      cases r with
      | d _ => exact w
      | n _ => exact w.2
      | b _ => exact w
    · obtain ⟨b, us, ds, e3, rfl, n, hb, no, q, g⟩ := rv
      rcases h with rfl | h
      · exact ⟨hb, n, no, fun v w => w.1⟩
      · obtain ⟨h1, h2, h4, h3⟩ := ownN_mem t e2 h
        exact ⟨h1, h2, h4, fun v w => h3 v w.2⟩
  | [], _ :: _, _, _, _, e, _, _ => by cases e
  | _ :: _, [], _, _, _, e, _, _ => by cases e
theorem items_of (R : Rel K B σ H ρ) (up : ∀ a, B2 a → B' a) : ∀ {is : List Nat} {rs : List Val} {vs : List V} {svs : List SV} {Pre : Addr → Prop}, RVs K B' σ H H' ρ1 rs vs → asgAll ow is rs = some svs → (∀ a, OwnN vs svs a → B2 a) →
    (∀ a, B2 a → B a ∨ Pre a ∨ OwnN vs svs a) → (∀ a, Pre a → Apart (.ref a) rs vs) → Items K H B2 H' vs svs
  | [], [], _, _, _, .nil, e, _, _, _ => by
    cases e
    exact .nil
  | i :: is, r :: rs, _, _, Pre, .cons rv ap t, e, hB, hn, hp => by
    rename_i v vs
    obtain ⟨sv, svs, e1, e2, rfl⟩ := asgAll_cons e
    have dn : ∀ a, B2 a → B' a ∨ H' a = none := fun a z => .inl (up a z)
    have hB' : ∀ a, OwnN vs svs a → B2 a := fun a z => hB a (ownN_up z)
    have hp' : ∀ a, Pre a → Apart (.ref a) rs vs := fun a z => by
      have w := hp a z
      cases r with
      | d _ => exact w
      | n _ => exact w.2
      | b _ => exact w
    rcases asgV_inv e1 with ⟨y, q, rfl⟩ | ⟨xs, rfl, rfl⟩
    · refine .cons ?_ (fun xs a z => nomatch z) (items_of R up t e2 hB' (fun a z => (hn a z).imp_right fun z => z.imp_right ownN_d) hp')
      cases r with
      | d z =>
        cases q
        exact Good.mv dn (fun _ _ _ w => w) rv
      | n z =>
        cases q
        obtain ⟨a, us, ds, rfl, rfl, n, hb, no, q, g⟩ := rv
        refine .lst (fun z => ?_) (.inl q) (g.mv dn fun _ _ _ w => w)
        rcases hn a z with z | z | z
        · exact R.tr0 a z n
        · exact (hp a z).1 rfl
        · obtain ⟨_, _, _, h3⟩ := ownN_mem t e2 (ownN_d z)
          exact h3 _ (ap _ rfl) rfl
      | b j => cases q
    · have ap' := ap _ rfl
      obtain ⟨a, us, ds, e3, rfl, n, hb, no, q, g⟩ := rv
      cases e3
      refine .cons ⟨a, us, rfl, n, hB a (.inl rfl), q, g.mv dn fun _ _ _ w => w⟩ (fun zs c _ e w => ?_) (items_of (Pre := fun c => Pre c ∨ c = a) R up t e2 hB' (fun c z => ?_) fun c z => ?_)
      · cases e
        obtain ⟨_, _, _, h3⟩ := ownN_mem t e2 w
        exact h3 _ ap' rfl
      · rcases hn c z with z | z | z | z
        · exact .inl z
        · exact .inr (.inl (.inl z))
        · exact .inr (.inl (.inr z))
        · exact .inr (.inr z)
      · rcases z with z | rfl
        · exact hp' c z
        · exact ap'
  | [], _ :: _, _, _, _, _, e, _, _, _ => by cases e
  | _ :: _, [], _, _, _, _, e, _, _, _ => by cases e
theorem asgs_store (F : FrOk K E B σ H ρ) {is : List Nat} (hi : ∀ i ∈ is, ∀ a, E.io i ≠ some a) (e : asgAll ow is rs = some svs) (x : Ext K B σ H ρ B' H' ρ1) (rv : RVs K B' σ H H' ρ1 rs vs) :
    ∃ B2, FrOk K E B2 (setAll is vs σ) H' (setAll is svs ρ1) := by
  have up : ∀ a, (B a ∨ OwnN vs svs a) → B' a := fun a z => z.elim (x.up a) fun z => (ownN_mem rv e z).1
  have it := items_of (Pre := fun _ => False) (B2 := fun a => B a ∨ OwnN vs svs a) F.rel up rv e (fun a z => .inr z) (fun a z => z.imp_right .inr) fun a z => z.elim
  have x2 := x.mid F.rel (fun a z => .inl z) up
  refine ⟨_, asg_all is (F.ext x2) hi it (fun a n => F.unt n) (fun a z => (ownN_mem rv e z).2.2.1) fun j us c e1 e2 => ?_⟩
  obtain ⟨c', us', e3, s, g⟩ := F.rel.ro j us (x.sl.ro.mp e1)
  rw [e2] at e3
  cases e3
  rcases s with ⟨n, r⟩ | s
  · exact .inl (Rd.someD r)
  · exact .inr ⟨us', s, x2.goodAll F.rel g⟩
def sPar (io ow is : List Nat) (ca : CA) : CS := fun ρ => do
  let (rs, ρ1) ← ca ρ
  let svs ← asgAll ow is rs
  if (is.all fun i => !io.contains i) = true then pure (.nx, setAll is svs ρ1) else none
theorem par_read {is : List Nat} {ca : CA} {D : Ends} (h : tS K io (sPar io ow is ca) D σ H) : tAs K ca σ H fun vs H' => vs.length = is.length ∧ D.nx (setAll is vs σ) H' := by
  obtain ⟨E, B, ρ, f, ρ', F, hio, e, k⟩ := h
  unfold sPar at e
  simp only [Option.bind_eq_bind, Option.bind_eq_some_iff, Option.pure_def] at e
  obtain ⟨⟨rs, ρ1⟩, e1, svs, e2, e3⟩ := e
  split at e3
  · rename_i hi
    cases e3
    have hi' : ∀ i ∈ is, ∀ a, E.io i ≠ some a := fun i m a z => by
      have h1 := hio i a z
      have h2 := List.all_eq_true.mp hi i m
      simp at h2
      exact h2 h1
    have hl : ∀ {is : List Nat} {rs : List Val} {svs : List SV}, asgAll ow is rs = some svs → rs.length = is.length := fun {is} => by
      induction is with
      | nil => intro rs svs e; cases rs with
        | nil => rfl
        | cons => cases e
      | cons i is ih => intro rs svs e; cases rs with
        | nil => cases e
        | cons r rs =>
          obtain ⟨_, _, _, q, _⟩ := asgAll_cons e
          rw [List.length_cons, List.length_cons, ih q]
    refine ⟨B, ρ, rs, ρ1, F.rel, e1, fun vs B' H' x rv => ?_⟩
    obtain ⟨B2, F2⟩ := asgs_store F hi' e2 x rv
    exact ⟨by rw [rv.len, hl e2], k _ B2 H' F2⟩
  · cases e3
theorem ds_par {i j : Nat} {x y : Str} {a b : Expr} {ca : CA} {px py pt pos : Pos} {kt k2 pt2} (hc : X.calm = true) (hN : X.N.Nodup) (hi : X.N[i]? = some x) (hj : X.N[j]? = some y) (hij : i ≠ j)
    (hx : X.env.scope.names.lookup x = some .local) (hy : X.env.scope.names.lookup y = some .local) (ha : DAs X [a, b] ca)
    (hw : swappedStores [.Tuple [.Name x px, .Name y py] kt pt] (.Tuple [a, b] k2 pt2) X.env = pure (some [x, y]))
    (hs : swapsWithSole [.Tuple [.Name x px, .Name y py] kt pt] (.Tuple [a, b] k2 pt2) pos.line X.env = pure false) :
    DS X io (.Assign [.Tuple [.Name x px, .Name y py] kt pt] (.Tuple [a, b] k2 pt2) pos) (sPar io ow [i, j] ca) := by
  refine ⟨PS.weak (ps_par hc hN hi hj hij hx hy ha.pa hw hs) fun D σ H h => ?_⟩
  obtain ⟨B, ρ, rs, ρ1, R, e, k⟩ := par_read h
  refine ⟨B, ρ, rs, ρ1, R, e, fun vs B' H' x rv => ?_⟩
  obtain ⟨hl, q⟩ := k vs B' H' x rv
  match vs, hl, q with
  | [v, w], _, q => exact ⟨v, w, rfl, q⟩
theorem ds_par3 {i j l : Nat} {x y z : Str} {a b c : Expr} {ca : CA} {px py pz pt pos : Pos} {kt k2 pt2} (hc : X.calm = true) (hN : X.N.Nodup) (hi : X.N[i]? = some x) (hj : X.N[j]? = some y) (hl : X.N[l]? = some z) (hij : i ≠ j) (hil : i ≠ l) (hjl : j ≠ l)
    (hx : X.env.scope.names.lookup x = some .local) (hy : X.env.scope.names.lookup y = some .local) (hz : X.env.scope.names.lookup z = some .local) (ha : DAs X [a, b, c] ca)
    (hw : swappedStores [.Tuple [.Name x px, .Name y py, .Name z pz] kt pt] (.Tuple [a, b, c] k2 pt2) X.env = pure (some [x, y, z]))
    (hs : swapsWithSole [.Tuple [.Name x px, .Name y py, .Name z pz] kt pt] (.Tuple [a, b, c] k2 pt2) pos.line X.env = pure false) :
    DS X io (.Assign [.Tuple [.Name x px, .Name y py, .Name z pz] kt pt] (.Tuple [a, b, c] k2 pt2) pos) (sPar io ow [i, j, l] ca) := by
  refine ⟨PS.weak (ps_par3 hc hN hi hj hl hij hil hjl hx hy hz ha.pa hw hs) fun D σ H h => ?_⟩
  obtain ⟨B, ρ, rs, ρ1, R, e, k⟩ := par_read h
  refine ⟨B, ρ, rs, ρ1, R, e, fun vs B' H' x rv => ?_⟩
  obtain ⟨hl, q⟩ := k vs B' H' x rv
  match vs, hl, q with
  | [u, v, w], _, q => exact ⟨u, v, w, rfl, q⟩

/-! ### targets of statements -/
abbrev ST := PyData → Env → Option Env
def tGS (K : PySem.W.Frag) (io : List Nat) (st : ST) : TG := fun v σ H Q => ∃ E B ρ x ρ', FrOk K E B σ H ρ ∧ (∀ (j : Nat) a, E.io j = some a → j ∈ io) ∧ Good K B H v x ∧ st x ρ = some ρ' ∧
  ∀ σ' B' H', FrOk K E B' σ' H' ρ' → (∀ u y, Good K B H u y → Good K B' H' u y) → Q σ' H'
structure DGS (X : Cx) (io : List Nat) (tg : Expr) (st : ST) : Prop where
  pg : PG X tg (tGS X.K io st)
def gN (io : List Nat) (i : Nat) : ST := fun x ρ => if io.contains i then none else some (ρ.set i (some (.d x)))
theorem dgs_name {x : Str} {pos : Pos} (hN : X.N.Nodup) (hi : X.N[i]? = some x) (hx : Loc X.env.scope x) (hf : X.fn x = true ∨ X.env.scope.names.lookup x = some .local) : DGS X io (.Name x pos) (gN io i) := by
  refine ⟨PG.weak (pg_name hN hi hx hf) fun v σ H Q h => ?_⟩
  obtain ⟨E, B, ρ, y, ρ', F, hio, g, e, k⟩ := h
  unfold gN at e
  split at e
  · cases e
  · rename_i ni
    cases e
    exact k _ B H (F.put (fun a z => ni (by simpa using hio i a z)) g) fun _ _ g => g
/-- slot[i] = .. -/
def gAt (i : Nat) (ci : CE) : ST := fun x ρ => match ρ[i]? with
  | some (some (.own _)) => do
    let (r, ρ1) ← ci ρ
    match r with
    | .d (.int k) => match ρ1[i]? with
      | some (some (.own xs)) => do
        let j ← ixN xs.length k
        pure (ρ1.set i (some (.own (xs.set j x))))
      | _ => none
    | _ => none
  | _ => none
theorem dgs_at {o e : Expr} {ci : CE} {pos : Pos} (ho : DE X o (cVar i)) (hi : DE X e ci)
    (ha : ∀ v, assign (.Subscript o e pos) X.env v = (do
      let ov ← holding [v] (eval o X.env)
      let iv ← holding [v, ov] (eval e X.env)
      standAt pos
      holding [v, ov, iv] (setItem ov iv v)
      release [v, ov, iv] [])) : DGS X io (.Subscript o e pos) (gAt i ci) := by
  refine ⟨PG.weak (pg_sub ho.pe hi.pe set_list ha) fun v σ H Q h => ?_⟩
  obtain ⟨E, B, ρ, y, ρ', F, hio, g, e, k⟩ := h
  unfold gAt at e
  split at e
  · rename_i xs0 e0
    simp only [Option.bind_eq_bind, Option.bind_eq_some_iff] at e
    obtain ⟨⟨r, ρ1⟩, e1, e2⟩ := e
    dsimp only at e2
    split at e2
    · rename_i n
      split at e2
      · rename_i xs ex
        simp only [Option.bind_eq_some_iff, Option.pure_def, Option.some.injEq] at e2
        obtain ⟨j, e3, e4⟩ := e2
        subst e4
        refine ⟨B, ρ, .b i, ρ, F.rel, by unfold cVar; rw [e0], fun o B0 H0 x0 v0 => ?_⟩
        obtain ⟨a, ea, rfl, _⟩ := v0
        refine ⟨B0, ρ, _, ρ1, x0.rel, e1, fun u B1 H1 x1 v1 => ?_⟩
        have v1' : Good X.K B1 H1 u (.int n) := v1
        cases v1'
        have x01 := x0.trans F.rel x1
        obtain ⟨a', vs, ea', b, hs, gx⟩ := x01.rel.own i xs ex
        rw [ea] at ea'
        cases ea'
        refine ⟨a, vs, n, j, rfl, rfl, hs, by rw [gx.len]; exact e3, ?_⟩
        have g1 := x01.good F.rel g
        have xm := Ext.mut x01.rel ex ea (gx.setA j g1)
        have xx := x01.trans F.rel xm
        exact k σ B1 _ (F.ext xx) fun u y g => xx.good F.rel g
      · cases e2
    · cases e2
  · cases e
def gTs : List ST → List PyData → Env → Option Env
  | [], [], ρ => some ρ
  | t :: ts, x :: xs, ρ => do
    let ρ1 ← t x ρ
    gTs ts xs ρ1
  | _, _, _ => none
def tGSs (K : PySem.W.Frag) (io : List Nat) (ts : List ST) : TGs := fun vs σ H Q => ∃ E B ρ xs ρ', FrOk K E B σ H ρ ∧ (∀ (j : Nat) a, E.io j = some a → j ∈ io) ∧ GoodAll K B H vs xs ∧ gTs ts xs ρ = some ρ' ∧
  ∀ σ' B' H', FrOk K E B' σ' H' ρ' → (∀ u y, Good K B H u y → Good K B' H' u y) → Q σ' H'
structure DGSs (X : Cx) (io : List Nat) (tgs : List Expr) (ts : List ST) : Prop where
  pg : PGs X tgs (tGSs X.K io ts)
theorem PGs.weak {X : Cx} {tg : List Expr} {t t' : TGs} (h : PGs X tg t) (k : ∀ v σ H Q, t' v σ H Q → t v σ H Q) : PGs X tg t' := ⟨fun pins s σ H v u Q I r w => h.run pins s σ H v u Q I r (k v σ H Q w)⟩
theorem goodAll_up (up : ∀ u y, Good K B H u y → Good K B' H' u y) : ∀ {vs : List V} {xs : List PyData}, GoodAll K B H vs xs → GoodAll K B' H' vs xs
  | _, _, .nil => .nil
  | _, _, .cons g t => .cons (up _ _ g) (goodAll_up up t)
theorem dgss_nil : DGSs X io [] [] := by
  refine ⟨PGs.weak pgs_nil fun vs σ H Q h => ?_⟩
  obtain ⟨E, B, ρ, xs, ρ', F, hio, g, e, k⟩ := h
  cases g with
  | nil =>
    cases e
    exact ⟨rfl, k σ B H F fun _ _ g => g⟩
  | cons g t => cases e
theorem dgss_cons {e : Expr} {es : List Expr} {t : ST} {ts : List ST} (h1 : DGS X io e t) (h2 : DGSs X io es ts) (hs : (assignEach (e :: es) X.env).map (·.2) = assign e X.env :: (assignEach es X.env).map (·.2)) : DGSs X io (e :: es) (t :: ts) := by
  refine ⟨PGs.weak (pgs_cons h1.pg h2.pg hs) fun vs σ H Q h => ?_⟩
  obtain ⟨E, B, ρ, xs, ρ', F, hio, g, e, k⟩ := h
  cases g with
  | nil => cases e
  | cons g gt =>
    simp only [gTs, Option.bind_eq_bind, Option.bind_eq_some_iff] at e
    obtain ⟨ρ1, e1, e2⟩ := e
    refine ⟨_, _, rfl, E, B, ρ, _, ρ1, F, hio, g, e1, fun σ1 B1 H1 F1 up1 => ?_⟩
    exact ⟨E, B1, ρ1, _, ρ', F1, hio, goodAll_up up1 gt, e2, fun σ2 B2 H2 F2 up2 => k σ2 B2 H2 F2 fun u y g => up2 u y (up1 u y g)⟩
def gTu (ts : List ST) : ST := fun x ρ => match x with
  | .tuple xs => gTs ts xs ρ
  | _ => none
theorem gTs_len : ∀ {ts : List ST} {xs : List PyData} {ρ : Env}, gTs ts xs ρ = some ρ' → xs.length = ts.length
  | [], [], _, _ => rfl
  | [], _ :: _, _, e => by cases e
  | _ :: _, [], _, e => by cases e
  | t :: ts, x :: xs, ρ, e => by
    simp only [gTs, Option.bind_eq_bind, Option.bind_eq_some_iff] at e
    obtain ⟨ρ1, e1, e2⟩ := e
    rw [List.length_cons, List.length_cons, gTs_len e2]
theorem dgs_tup {es : List Expr} {k : Nat} {ts : List ST} {pos : Pos} (hc : X.calm = true) (h : DGSs X io es ts) (hn : (assignEach es X.env).length = ts.length) (hst : (assignEach es X.env).findIdx? (·.1) = none) : DGS X io (.Tuple es k pos) (gTu ts) := by
  refine ⟨PG.weak (pg_tup hc h.pg hn hst) fun v σ H Q h => ?_⟩
  obtain ⟨E, B, ρ, y, ρ', F, hio, g, e, k⟩ := h
  unfold gTu at e
  split at e
  · rename_i xs
    obtain ⟨a, vs, rfl, sq, ga⟩ := Read.tup (.inl g)
    exact ⟨a, vs, rfl, sq, by rw [ga.len]; exact gTs_len e, E, B, ρ, xs, ρ', F, hio, ga, e, k⟩
  · cases e
def sTo (c : CE) (st : ST) : CS := fun ρ => do
  let (r, ρ1) ← c ρ
  let x ← keepV r
  let ρ2 ← st x ρ1
  pure (.nx, ρ2)
theorem ds_to {tg e : Expr} {c : CE} {st : ST} {pos : Pos} (he : DE X e c) (hg : DGS X io tg st) (hs : swapsWithSole [tg] e pos.line X.env = pure false) (hw : swappedStores [tg] e X.env = pure none)
    (h1 : (assignEach [tg] X.env).map (·.2) = [assign tg X.env]) : DS X io (.Assign [tg] e pos) (sTo c st) := by
  refine ⟨PS.weak (ps_asg he.pe hg.pg hs hw h1) fun D σ H h => ?_⟩
  obtain ⟨E, B, ρ, f, ρ', F, hio, e, k⟩ := h
  unfold sTo at e
  simp only [Option.bind_eq_bind, Option.bind_eq_some_iff, Option.pure_def, Option.some.injEq] at e
  obtain ⟨⟨r, ρ1⟩, e1, x, e2, ρ2, e3, e4⟩ := e
  cases e4
  refine ⟨B, ρ, r, ρ1, F.rel, e1, fun v B' H' xx rv => ?_⟩
  exact ⟨E, B, ρ1, x, ρ', F.dn xx, hio, rv.good F.rel xx e2, e3, fun σ' B2 H2 F2 _ => k σ' B2 H2 F2⟩
end
end DL

/-! DL11: for, while. -/
namespace DL
open PySem PySem.Spec PyProof.Rows L2
section
variable {K : PySem.W.Frag} {B B' B'' B1 B2 W : Addr → Prop} {σ σ' σa σ1 σ2 : L2.St} {H H0 H' H'' H1 H2 : Hp} {ρ ρ' ρ'' ρ1 ρ2 ρ3 ρa : Env} {r : Val} {v : V} {vs us ws : List V} {X : Cx} {a b : Addr} {ds es xs ys : List PyData} {io ow : List Nat} {i : Nat} {E : Ent} {rs : List Val} {svs : List SV}

/-- the slot that is lent -/
def lentAt (ρ : Env) : Val → Option Nat
  | .b i => match ρ[i]? with
    | some (some (.own _)) => some i
    | _ => none
  | _ => none
/-- a loop's own beginning -/
def Ent.loop (E : Ent) (B : Addr → Prop) (σ : L2.St) (H : Hp) (ρ : Env) (r : Val) : Ent :=
  ⟨B, H, OwnA σ (lend ρ r), fun j => if lentAt ρ r = some j then none else E.io j, σ, lend ρ r⟩
theorem lent_spec {ρ : Env} {r : Val} : (lentAt ρ r = none ∧ lend ρ r = ρ ∧ ∀ ρ2, unlend ρ ρ2 r = some ρ2) ∨
    ∃ j xs, lentAt ρ r = some j ∧ r = .b j ∧ ρ[j]? = some (some (.own xs)) ∧ lend ρ r = ρ.set j (some (.ro xs)) ∧ ∀ ρ2 ρ3, unlend ρ ρ2 r = some ρ3 → (∃ ys, ρ2[j]? = some (some (.ro ys))) ∧ ρ3 = ρ2.set j (some (.own xs)) := by
  cases r with
  | d x => exact .inl ⟨rfl, rfl, fun _ => rfl⟩
  | n x => exact .inl ⟨rfl, rfl, fun _ => rfl⟩
  | b j =>
    by_cases h : ∃ xs, ρ[j]? = some (some (.own xs))
    · obtain ⟨xs, q⟩ := h
      refine .inr ⟨j, xs, by unfold lentAt; dsimp only; rw [q], rfl, q, by unfold lend; dsimp only; rw [q], fun ρ2 ρ3 e => ?_⟩
      unfold unlend at e
      dsimp only at e
      rw [q] at e
      dsimp only at e
      split at e
      · rename_i ys q2
        cases e
        exact ⟨⟨ys, q2⟩, rfl⟩
      · cases e
    · have no : ∀ xs, ρ[j]? ≠ some (some (.own xs)) := fun xs q => h ⟨xs, q⟩
      refine .inl ⟨?_, ?_, fun ρ2 => ?_⟩
      · unfold lentAt
        dsimp only
        split
        · rename_i xs q
          exact (no xs q).elim
        · rfl
      · unfold lend
        dsimp only
        split
        · rename_i xs q
          exact (no xs q).elim
        · rfl
      · unfold unlend
        dsimp only
        split
        · rename_i xs q
          exact (no xs q).elim
        · rfl
theorem FrOk.loop (F : FrOk K E B σ H ρ) (r : Val) : FrOk K (E.loop B σ H ρ r) B σ H (lend ρ r) where
  rel := F.rel.lend r
  up := fun _ h => h
  new := fun _ h => .inl h
  wb := fun a o => F.rel.ownB (lend_ownA o)
  keep := fun _ _ _ e => e
  io := fun j a h => by
    have h : (if lentAt ρ r = some j then none else E.io j) = some a := h
    split at h
    · cases h
    · rename_i nl
      obtain ⟨⟨ys, h1⟩, h2⟩ := F.io j a h
      refine ⟨?_, h2⟩
      rcases lent_spec (ρ := ρ) (r := r) with ⟨_, e, _⟩ | ⟨i, xs, e1, rfl, q, e, _⟩
      · rw [e]
        exact ⟨ys, h1⟩
      · rw [e]
        refine ⟨ys, ?_⟩
        rw [List.getElem?_set_ne fun z => nl (by rw [← z]; exact e1)]
        exact h1
  loc := fun _ o => .inl o
  ro := fun _ _ h => ⟨h, rfl⟩
theorem loop_w (F : FrOk K E B σ H ρ) {a : Addr} (h : (E.loop B σ H ρ r).W a) : E.W a ∨ E.H a = none := F.loc a (lend_ownA h)
/-- the lent list's address is none of those that the loop writes -/
theorem lent_nw (R : Rel K B σ H ρ) {j : Nat} (q : ρ[j]? = some (some (.own xs))) (e : lend ρ (.b j) = ρ.set j (some (.ro xs))) (ea : σ[j]? = some (some (.ref a))) : ¬ OwnA σ (lend ρ (.b j)) a := fun ⟨i, ws, o1, o2⟩ => by
  obtain ⟨o3, o4⟩ := lend_own o1
  exact o4 (by rw [R.dis j i _ _ _ q o3 ea o2])
/-- behind the loop -/
theorem FrOk.unloop (F : FrOk K E B1 σ1 H1 ρ1) (F2 : FrOk K (E.loop B1 σ1 H1 ρ1 r) B2 σ2 H2 ρ2) (e : unlend ρ1 ρ2 r = some ρ3) : FrOk K E B2 σ2 H2 ρ3 := by
  have up : ∀ a, E.B a → B2 a := fun a h => F2.up a (F.up a h)
  have new1 : ∀ a, B2 a → B1 a ∨ H1 a = none := F2.new
  have new : ∀ a, B2 a → E.B a ∨ E.H a = none := fun a h => (new1 a h).elim (F.new a) fun z => .inr (F.unt z)
  have keep1 : ∀ a o, ¬ OwnA σ1 (lend ρ1 r) a → H1 a = some o → H2 a = some o := F2.keep
  have keep : ∀ a o, ¬ E.W a → E.H a = some o → H2 a = some o := fun a o n h => keep1 a o (fun z => (loop_w F z).elim n fun w => by rw [w] at h; cases h) (F.keep a o n h)
  have keepB : ∀ a o, ¬ B1 a → H1 a = some o → H2 a = some o := fun a o n h => keep1 a o (fun z => n (F.rel.ownB (lend_ownA z))) h
  have loc2 : ∀ a, OwnA σ2 ρ2 a → OwnA σ1 ρ1 a ∨ H1 a = none := fun a o => (F2.loc a o).imp_left lend_ownA
  rcases lent_spec (ρ := ρ1) (r := r) with ⟨e0, e1, e2⟩ | ⟨j, xs, e0, rfl, q, e1, e2⟩
  · rw [e2] at e
    cases e
    refine ⟨F2.rel, up, new, F.wb, keep, fun j a h => ?_, fun a o => ?_, fun i ws h => ?_⟩
    · refine F2.io j a ?_
      show (if lentAt ρ1 r = some j then none else E.io j) = some a
      rw [e0, if_neg (fun z => nomatch z)]
      exact h
    · exact (loc2 a o).elim (F.loc a) fun z => .inr (F.unt z)
    · obtain ⟨h1, h2⟩ := F2.ro i ws h
      have h1 : (lend ρ1 r)[i]? = some (some (.ro ws)) := h1
      rw [e1] at h1
      obtain ⟨h3, h4⟩ := F.ro i ws h1
      exact ⟨h3, h2.trans h4⟩
  · obtain ⟨⟨ys, q2⟩, rfl⟩ := e2 ρ2 ρ3 e
    have hl : j < ρ2.length := (List.getElem?_eq_some_iff.mp q2).1
    obtain ⟨a, vs, ea, b, hs, g⟩ := F.rel.own j xs q
    have nw := lent_nw F.rel q e1 ea
    have ea2 : σ2[j]? = some (some (.ref a)) := by
      obtain ⟨_, h2⟩ := F2.ro j ys q2
      rw [h2]
      exact ea
    have hs2 : H2 a = some (.lst vs) := keep1 a _ nw hs
    have na : H1 a ≠ none := by rw [hs]; exact fun z => nomatch z
    have nl2 : ¬ OwnA σ2 ρ2 a := fun o => (F2.loc a o).elim nw na
    have own3 : ∀ c, OwnA σ2 (ρ2.set j (some (.own xs))) c → c = a ∨ OwnA σ2 ρ2 c := fun c ⟨i, ws, h1, h2⟩ => by
      rcases set_get h1 with ⟨rfl, _, _⟩ | ⟨z, h1⟩
      · rw [ea2] at h2
        cases h2
        exact .inl rfl
      · exact .inr ⟨i, ws, h1, h2⟩
    have own1 : ∀ c, OwnA σ2 (ρ2.set j (some (.own xs))) c → OwnA σ1 ρ1 c ∨ H1 c = none := fun c o => (own3 c o).elim (fun z => .inl (by rw [z]; exact ⟨j, xs, q, ea⟩)) (loc2 c)
    refine ⟨⟨fun i y h => ?_, fun i ws h => ?_, fun i ws h => ?_, fun i k us ws c h1 h2 h3 h4 => ?_, F2.rel.tr, by rw [List.length_set]; exact F2.rel.len⟩, up, new, F.wb, keep, fun i c h => ?_, fun c o => ?_, fun i ws h => ?_⟩
    · rcases set_get h with ⟨_, z, _⟩ | ⟨_, h⟩
      · cases z
      · exact F2.rel.dat i y h
    · rcases set_get h with ⟨rfl, z, _⟩ | ⟨_, h⟩
      · cases z
        exact ⟨a, vs, ea2, F2.up a b, hs2, g.mv new1 keepB⟩
      · exact F2.rel.own i ws h
    · rcases set_get h with ⟨_, z, _⟩ | ⟨z, h⟩
      · cases z
      · obtain ⟨h1, h2⟩ := F2.ro i ws h
        have h1 : (lend ρ1 (.b j))[i]? = some (some (.ro ws)) := h1
        rw [e1, List.getElem?_set_ne (Ne.symm z)] at h1
        obtain ⟨c, us, h3, s, gg⟩ := F.rel.ro i ws h1
        exact ⟨c, us, h2.trans h3, s.keep own1 fun d o n w => keep1 d o (fun z => n (lend_ownA z)) w, gg.mv new1 keepB⟩
    · rcases set_get h1 with ⟨p1, _, _⟩ | ⟨z1, p1⟩
      · rcases set_get h2 with ⟨p2, _, _⟩ | ⟨z2, p2⟩
        · rw [p1, p2]
        · rw [p1, ea2] at h3
          cases h3
          exact (nl2 ⟨k, ws, p2, h4⟩).elim
      · rcases set_get h2 with ⟨p2, _, _⟩ | ⟨z2, p2⟩
        · rw [p2, ea2] at h4
          cases h4
          exact (nl2 ⟨i, us, p1, h3⟩).elim
        · exact F2.rel.dis i k us ws c p1 p2 h3 h4
    · by_cases z : j = i
      · subst z
        obtain ⟨_, h2⟩ := F.io j c h
        rw [ea] at h2
        cases h2
        exact ⟨⟨xs, List.getElem?_set_self hl⟩, ea2⟩
      · rw [List.getElem?_set_ne z]
        refine F2.io i c ?_
        show (if lentAt ρ1 (.b j) = some i then none else E.io i) = some c
        rw [e0, if_neg fun w => z (Option.some.inj w)]
        exact h
    · exact (own1 c o).elim (F.loc c) fun z => .inr (F.unt z)
    · rcases set_get h with ⟨_, z, _⟩ | ⟨z, h⟩
      · cases z
      · obtain ⟨h1, h2⟩ := F2.ro i ws h
        have h1 : (lend ρ1 (.b j))[i]? = some (some (.ro ws)) := h1
        rw [e1, List.getElem?_set_ne (Ne.symm z)] at h1
        obtain ⟨h3, h4⟩ := F.ro i ws h1
        exact ⟨h3, h2.trans h4⟩
theorem RetV.unloop (F : FrOk K E B1 σ1 H1 ρ1) {q : Val} (rv : RetV K (E.loop B1 σ1 H1 ρ1 r) B2 H2 q v) : RetV K E B2 H2 q v := by
  cases q with
  | d x => exact rv
  | b i => exact rv.elim
  | n x =>
    obtain ⟨a, vs, ds, rfl, rfl, h1, h2, h3⟩ := rv
    have h1 : OwnA σ1 (lend ρ1 r) a ∨ H1 a = none := h1
    refine ⟨a, vs, ds, rfl, rfl, h1.elim (fun z => F.loc a (lend_ownA z)) fun z => .inr (F.unt z), fun j z => h2 j ?_, h3⟩
    show (if lentAt ρ1 r = some j then none else E.io j) = some a
    split
    · rename_i e
      rcases lent_spec (ρ := ρ1) (r := r) with ⟨e0, _, _⟩ | ⟨i, xs, e0, rfl, q, e1, _⟩
      · rw [e0] at e
        cases e
      · rw [e0] at e
        cases e
        obtain ⟨_, h4⟩ := F.io j a z
        rcases h1 with h1 | h1
        · exact (lent_nw F.rel q e1 h4 h1).elim
        · obtain ⟨a', vs, ea', b, hs, _⟩ := F.rel.own j xs q
          rw [h4] at ea'
          cases ea'
          rw [h1] at hs
          cases hs
    · exact z

/-! ### for -/
def loopF (st : ST) (body : CS) : List PyData → Env → Option (Fl × Env)
  | [], ρ => some (.nx, ρ)
  | d :: ds, ρ => match st d ρ with
    | none => none
    | some ρ1 => match body ρ1 with
      | none => none
      | some (.nx, ρ2) => loopF st body ds ρ2
      | some (.ct, ρ2) => loopF st body ds ρ2
      | some (.bk, ρ2) => some (.nx, ρ2)
      | some (.rt r, ρ2) => some (.rt r, ρ2)
def sFor (ci : CI) (st : ST) (body : CS) : CS := fun ρ => match ci ρ with
  | none => none
  | some (ds, ρ1, r) => match loopF st body ds (lend ρ1 r) with
    | none => none
    | some (f, ρ2) => match unlend ρ1 ρ2 r with
      | none => none
      | some ρ3 => some (f, ρ3)
theorem ds_for {tg iter : Expr} {body : List Stmt} {ci : CI} {st : ST} {cb : CS} {pos : Pos} (hp : PassesOwn (model X.prog X.w) X.A X.env X.xe) (hc : X.calm = true) (hi : DI X tg iter ci) (hg : DGS X io tg st) (hb : DSs X io body cb)
    (hs : ∀ x, foldedSetIterable iter X.env x = pure x) : DS X io (.For tg iter body [] pos) (sFor ci st cb) := by
  refine ⟨PS.weak (ps_for hp hc hi.pi hg.pg hb.ps hs) fun D σ H h => ?_⟩
  obtain ⟨E, B, ρ, f, ρ', F, hio, e, k⟩ := h
  unfold sFor at e
  split at e
  · cases e
  rename_i ds ρ1 r e1
  split at e
  · cases e
  rename_i f' ρ2 e2
  split at e
  · cases e
  rename_i ρ3 e3
  cases e
  refine ⟨B, ρ, ds, ρ1, r, F.rel, e1, fun J B1 H1 x1 fd => ?_⟩
  have F1 := F.ext x1
  have hio' : ∀ (j : Nat) a, (E.loop B1 σ H1 ρ1 r).io j = some a → j ∈ io := fun j a h => by
    have h : (if lentAt ρ1 r = some j then none else E.io j) = some a := h
    split at h
    · cases h
    · exact hio j a h
  refine ⟨fun i m σ' H' => m = ds.length - i ∧ i ≤ ds.length ∧ ∃ B' ρi, FrOk X.K (E.loop B1 σ H1 ρ1 r) B' σ' H' ρi ∧ loopF st cb (ds.drop i) ρi = some (f, ρ2), ⟨ds.length, rfl, Nat.zero_le _, B1, _, F1.loop r, by rw [List.drop_zero]; exact e2⟩, ?_⟩
  rintro i m σi Hi ⟨rfl, hle, Bi, ρi, Fi, el⟩
  obtain ⟨fstop, fgo⟩ := fd i Hi fun a o n z => Fi.keep a o n z
  by_cases hlt : i < ds.length
  · refine .inr ?_
    rw [List.drop_eq_getElem_cons hlt] at el
    have hget : ds[i]? = some ds[i] := List.getElem?_eq_getElem hlt
    obtain ⟨go, yl⟩ := fgo _ hget
    refine ⟨go, fun σ' H' => ∃ B' ρn, FrOk X.K (E.loop B1 σ H1 ρ1 r) B' σ' H' ρn ∧ loopF st cb (ds.drop (i + 1)) ρn = some (f, ρ2), fun σ' H' h => ⟨ds.length - (i + 1), by omega, rfl, hlt, h⟩, fun x H3 y => ?_⟩
    obtain ⟨sm, gd⟩ := yl x H3 y
    unfold loopF at el
    split at el
    · cases el
    rename_i ρb eb
    have F3 := Fi.ext (Ext.ofSame Fi.rel sm)
    refine ⟨_, Bi, ρi, _, ρb, F3, hio', gd Bi Fi.new Fi.rel.tr0, eb, fun σ4 B4 H4 F4 _ => ?_⟩
    split at el
    · cases el
    · rename_i ρn en
      exact ⟨_, B4, ρb, .nx, ρn, F4, hio', en, fun σ5 B5 H5 F5 => ⟨B5, ρn, F5, el⟩⟩
    · rename_i ρn en
      exact ⟨_, B4, ρb, .ct, ρn, F4, hio', en, fun σ5 B5 H5 F5 => ⟨B5, ρn, F5, el⟩⟩
    · rename_i ρn en
      cases el
      exact ⟨_, B4, ρb, .bk, ρ2, F4, hio', en, fun σ5 B5 H5 F5 => k σ5 B5 H5 (F1.unloop F5 e3)⟩
    · rename_i q ρn en
      cases el
      exact ⟨_, B4, ρb, .rt q, ρ2, F4, hio', en, fun v σ5 B5 H5 F5 rv => k v σ5 B5 H5 (F1.unloop F5 e3) (RetV.unloop F1 rv)⟩
  · have he : i = ds.length := by omega
    subst he
    rw [List.drop_length] at el
    cases el
    exact .inl ⟨fstop rfl, k σi Bi Hi (F1.unloop Fi e3)⟩

/-! ### while -/
def loopW (ct : CT) (body : CS) : Nat → Env → Option (Fl × Env)
  | 0, _ => none
  | n + 1, ρ => match ct ρ with
    | none => none
    | some (false, ρ1) => some (.nx, ρ1)
    | some (true, ρ1) => match body ρ1 with
      | none => none
      | some (.nx, ρ2) => loopW ct body n ρ2
      | some (.ct, ρ2) => loopW ct body n ρ2
      | some (.bk, ρ2) => some (.nx, ρ2)
      | some (.rt r, ρ2) => some (.rt r, ρ2)
/-- the loop within so many turns -/
def sWhile (n : Nat) (ct : CT) (body : CS) : CS := loopW ct body n
theorem ds_while {c : Expr} {body : List Stmt} {ct : CT} {cb : CS} {n : Nat} {pos : Pos} (hp : PassesOwn (model X.prog X.w) X.A X.env X.xe) (hc : DT X c ct) (hb : DSs X io body cb) : DS X io (.While c body [] pos) (sWhile n ct cb) := by
  refine ⟨PS.weak (ps_while hp hc.pt hb.ps) fun D σ H h => ?_⟩
  obtain ⟨E, B, ρ, f, ρ', F, hio, e, k⟩ := h
  refine ⟨fun m σ' H' => ∃ B' ρi, FrOk X.K E B' σ' H' ρi ∧ loopW ct cb m ρi = some (f, ρ'), ⟨n, B, ρ, F, e⟩, ?_⟩
  rintro m σi Hi ⟨Bi, ρi, Fi, el⟩
  cases m with
  | zero => cases el
  | succ m =>
    unfold loopW at el
    split at el
    · cases el
    · rename_i ρ1 e1
      cases el
      exact tT_fr Fi e1 fun B1 H1 F1 => iteF (k σi B1 H1 F1)
    · rename_i ρ1 e1
      refine tT_fr Fi e1 fun B1 H1 F1 => iteT ⟨fun σ' H' => ∃ B' ρn, FrOk X.K E B' σ' H' ρn ∧ loopW ct cb m ρn = some (f, ρ'), fun σ' H' h => ⟨m, Nat.lt_succ_self m, h⟩, ?_⟩
      split at el
      · cases el
      · rename_i ρn en
        exact ⟨E, B1, ρ1, .nx, ρn, F1, hio, en, fun σ5 B5 H5 F5 => ⟨B5, ρn, F5, el⟩⟩
      · rename_i ρn en
        exact ⟨E, B1, ρ1, .ct, ρn, F1, hio, en, fun σ5 B5 H5 F5 => ⟨B5, ρn, F5, el⟩⟩
      · rename_i ρn en
        cases el
        exact ⟨E, B1, ρ1, .bk, ρ', F1, hio, en, fun σ5 B5 H5 F5 => k σ5 B5 H5 F5⟩
      · rename_i q ρn en
        cases el
        exact ⟨E, B1, ρ1, .rt q, ρ', F1, hio, en, fun v σ5 B5 H5 F5 rv => k v σ5 B5 H5 F5 rv⟩
end
end DL

/-! DL12: defs by their bodies. -/
namespace DL
open PySem PySem.Spec PyProof.Rows L2
section
variable {K : PySem.W.Frag} {B B' B'' B1 B2 W : Addr → Prop} {σ σ' σa σ1 σ2 : L2.St} {H H0 H' H'' H1 H2 : Hp} {ρ ρ' ρ'' ρ1 ρ2 ρ3 ρa : Env} {r : Val} {v : V} {vs us ws : List V} {X : Cx} {a b : Addr} {ds es xs ys : List PyData} {io ow : List Nat} {i : Nat} {E : Ent} {rs : List Val} {svs : List SV} {σ0 : L2.St} {ρ0 : Env}
def isOwn : Option SV → Bool
  | some (.own _) => true
  | _ => false
/-- what the def leaves in the lists that it was lent -/
def outs1 (sv : SV) (o : Option (Option SV)) : SV := match sv with
  | .own xs => match o with
    | some (some (.own ys)) => .own ys
    | _ => .own xs
  | _ => sv
def outsAll (ρ' : Env) : Nat → List SV → List SV
  | _, [] => []
  | i, sv :: svs => outs1 sv ρ'[i]? :: outsAll ρ' (i + 1) svs
def ownsIn (io : List Nat) : Nat → List SV → Bool
  | _, [] => true
  | i, .own _ :: svs => io.contains i && ownsIn io (i + 1) svs
  | i, .d _ :: svs => ownsIn io (i + 1) svs
  | i, .ro _ :: svs => ownsIn io (i + 1) svs
/-- the def: np parameters, nl slots, io: the places of the parameters whose lists it is lent to change -/
def fnSem (np nl : Nat) (io : List Nat) (body : CS) : FE := fun svs =>
  if svs.length = np ∧ ownsIn io 0 svs = true then match body (envs svs ++ List.replicate (nl - np) none) with
    | some (.rt r, ρ') => some (r, outsAll ρ' 0 svs)
    | some (.nx, ρ') => some (.d .none, outsAll ρ' 0 svs)
    | _ => none
  else none
theorem outsAll_get {ρ' : Env} : ∀ {svs : List SV} {k j : Nat}, (outsAll ρ' k svs)[j]? = svs[j]?.map fun sv => outs1 sv ρ'[k + j]?
  | [], _, _ => by simp [outsAll]
  | sv :: svs, k, 0 => rfl
  | sv :: svs, k, j + 1 => by
    rw [outsAll, List.getElem?_cons_succ, List.getElem?_cons_succ, outsAll_get, show k + 1 + j = k + (j + 1) by omega]
theorem ownsIn_get : ∀ {svs : List SV} {k j : Nat} {xs : List PyData}, ownsIn io k svs = true → svs[j]? = some (.own xs) → k + j ∈ io
  | [], _, _, _, _, e => by simp at e
  | sv :: svs, k, 0, xs, h, e => by
    cases e
    unfold ownsIn at h
    simp at h
    exact h.1
  | sv :: svs, k, j + 1, xs, h, e => by
    have h' : ownsIn io (k + 1) svs = true := by
      cases sv with
      | own _ => unfold ownsIn at h; simp at h; exact h.2
      | d _ => exact h
      | ro _ => exact h
    have := ownsIn_get (j := j) h' e
    rw [show k + 1 + j = k + (j + 1) by omega] at this
    exact this
/-- the def's beginning -/
def entOf (B : Addr → Prop) (H : Hp) (vs : List V) (svs : List SV) (σ : L2.St) (ρ : Env) : Ent :=
  ⟨B, H, OwnA (slots vs) (envs svs), fun j => match svs[j]?, vs[j]? with
    | some (.own _), some (.ref a) => some a
    | _, _ => none, σ, ρ⟩
theorem entOf_io {j : Nat} {a : Addr} (h : (entOf B H vs svs σ ρ).io j = some a) : (∃ xs, svs[j]? = some (.own xs)) ∧ vs[j]? = some (.ref a) := by
  unfold entOf at h
  dsimp only at h
  split at h
  · rename_i xs b h1 h2
    cases h
    exact ⟨⟨xs, h1⟩, h2⟩
  · cases h
theorem app_get {α : Type} {xs : List α} {n j : Nat} {x : α} (h : (xs.map some ++ List.replicate n none)[j]? = some (some x)) : xs[j]? = some x := by
  by_cases hl : j < xs.length
  · rw [List.getElem?_append_left (by simpa using hl), List.getElem?_map] at h
    cases q : xs[j]? with
    | none => rw [q] at h; cases h
    | some y => rw [q] at h; simpa using h
  · rw [List.getElem?_append_right (by simpa using hl)] at h
    rw [List.getElem?_replicate] at h
    split at h
    · cases h
    · cases h
theorem app_get' {α : Type} {xs : List α} {n j : Nat} {x : α} (h : xs[j]? = some x) : (xs.map some ++ List.replicate n none)[j]? = some (some x) := by
  have hl : j < xs.length := (List.getElem?_eq_some_iff.mp h).1
  rw [List.getElem?_append_left (by simpa using hl), List.getElem?_map, h]
  rfl
theorem fr_start {n m : Nat} (R : Rel K B (slots vs) H (envs svs)) (hn : vs.length + n = svs.length + m) :
    FrOk K (entOf B H vs svs (slots vs ++ List.replicate n none) (envs svs ++ List.replicate m none)) B (slots vs ++ List.replicate n none) H (envs svs ++ List.replicate m none) := by
  have ow : ∀ c, OwnA (slots vs ++ List.replicate n none) (envs svs ++ List.replicate m none) c → OwnA (slots vs) (envs svs) c := fun c ⟨j, xs, h1, h2⟩ => ⟨j, xs, envs_get.mpr (app_get h1), slots_get.mpr (app_get h2)⟩
  refine ⟨⟨fun j x h => ?_, fun j xs h => ?_, fun j xs h => ?_, fun i j xs ys c h1 h2 h3 h4 => ?_, R.tr, ?_⟩, fun _ h => h, fun _ h => .inl h, fun a o => R.ownB o, fun _ _ _ e => e, fun j a h => ?_, fun a o => .inl (ow a o), fun j xs h => ⟨h, rfl⟩⟩
  · obtain ⟨v, e, g⟩ := R.dat j x (envs_get.mpr (app_get h))
    exact ⟨v, app_get' (slots_get.mp e), g⟩
  · obtain ⟨c, us, e, q⟩ := R.own j xs (envs_get.mpr (app_get h))
    exact ⟨c, us, app_get' (slots_get.mp e), q⟩
  · obtain ⟨c, us, e, s, g⟩ := R.ro j xs (envs_get.mpr (app_get h))
    exact ⟨c, us, app_get' (slots_get.mp e), s.keep (fun c o => .inl (ow c o)) (fun _ _ _ w => w), g⟩
  · exact R.dis i j xs ys c (envs_get.mpr (app_get h1)) (envs_get.mpr (app_get h2)) (slots_get.mpr (app_get h3)) (slots_get.mpr (app_get h4))
  · rw [List.length_append, List.length_append, List.length_map, List.length_map, List.length_replicate, List.length_replicate]
    omega
  · obtain ⟨⟨xs, h1⟩, h2⟩ := entOf_io h
    exact ⟨⟨xs, app_get' h1⟩, app_get' h2⟩
/-- behind the body -/
theorem fr_end (R : Rel K B (slots vs) H (envs svs)) (F : FrOk K (entOf B H vs svs σ0 ρ0) B' σ' H' ρ') : Ext K B (slots vs) H (envs svs) B' H' (envs (outsAll ρ' 0 svs)) := by
  have keep : ∀ a o, ¬ OwnA (slots vs) (envs svs) a → H a = some o → H' a = some o := F.keep
  have keepB : ∀ a o, ¬ B a → H a = some o → H' a = some o := fun a o n e => keep a o (fun z => n (R.ownB z)) e
  have cl : ∀ j : Nat, (∃ xs ys a, svs[j]? = some (.own xs) ∧ (outsAll ρ' 0 svs)[j]? = some (.own ys) ∧ ρ'[j]? = some (some (.own ys)) ∧ vs[j]? = some (.ref a) ∧ σ'[j]? = some (some (.ref a))) ∨ ((∀ xs, svs[j]? ≠ some (.own xs)) ∧ (outsAll ρ' 0 svs)[j]? = svs[j]?) := fun j => by
    rw [outsAll_get, Nat.zero_add]
    cases q : svs[j]? with
    | none => exact .inr ⟨fun _ z => (nomatch z), rfl⟩
    | some sv =>
      cases sv with
      | d x => exact .inr ⟨fun _ z => (nomatch z), rfl⟩
      | ro x => exact .inr ⟨fun _ z => (nomatch z), rfl⟩
      | own xs =>
        obtain ⟨a, us, e1, _⟩ := R.own j xs (envs_get.mpr q)
        have e1 := slots_get.mp e1
        have hio : (entOf B H vs svs σ0 ρ0).io j = some a := by
          unfold entOf
          dsimp only
          rw [q, e1]
        obtain ⟨⟨ys, h1⟩, h2⟩ := F.io j a hio
        refine .inl ⟨xs, ys, a, rfl, ?_, h1, e1, h2⟩
        rw [h1]
        rfl
  have sl : Slots (envs svs) (envs (outsAll ρ' 0 svs)) := fun j => by
    rcases cl j with ⟨xs, ys, a, h1, h2, _⟩ | ⟨_, h⟩
    · exact .inr ⟨xs, ys, envs_get.mpr h1, envs_get.mpr h2⟩
    · refine .inl ?_
      rw [List.getElem?_map, List.getElem?_map, h]
  refine ⟨F.up, F.new, ⟨fun j x h => ?_, fun j xs h => ?_, fun j xs h => ?_, fun i j xs ys c h1 h2 h3 h4 => ?_, F.rel.tr, ?_⟩, sl, keep⟩
  · obtain ⟨v, e, g⟩ := R.dat j x (sl.d.mp h)
    exact ⟨v, e, g.mv F.new keepB⟩
  · rcases cl j with ⟨us, ys, a, h1, h2, h3, h4, h5⟩ | ⟨h1, h2⟩
    · rw [envs_get] at h
      rw [h2] at h
      cases h
      obtain ⟨c, us', e, q⟩ := F.rel.own j xs h3
      rw [h5] at e
      cases e
      exact ⟨a, us', slots_get.mpr h4, q⟩
    · rw [envs_get, h2] at h
      exact (h1 xs h).elim
  · obtain ⟨c, us, e, s, g⟩ := R.ro j xs (sl.ro.mp h)
    exact ⟨c, us, e, s.keep (fun c o => .inl ((sl.ownA c).mp o)) keep, g.mv F.new keepB⟩
  · obtain ⟨us, q1⟩ := (sl.own i).mp ⟨xs, h1⟩
    obtain ⟨ws, q2⟩ := (sl.own j).mp ⟨ys, h2⟩
    exact R.dis i j us ws c q1 q2 h3 h4
  · rw [sl.len]
    exact R.len
theorem fr_ret (R : Rel K B (slots vs) H (envs svs)) (F : FrOk K (entOf B H vs svs σ0 ρ0) B' σ' H' ρ') (rv : RetV K (entOf B H vs svs σ0 ρ0) B' H' r v) : RV K B' (slots vs) H H' (envs (outsAll ρ' 0 svs)) r v := by
  cases r with
  | d x => exact rv
  | b i => exact rv.elim
  | n x =>
    obtain ⟨a, us, ds, rfl, rfl, h1, h2, b, q, g⟩ := rv
    have h1 : OwnA (slots vs) (envs svs) a ∨ H a = none := h1
    have n : H a = none := by
      rcases h1 with ⟨j, xs, e1, e2⟩ | h1
      · have e1 := envs_get.mp e1
        have e2 := slots_get.mp e2
        refine (h2 j ?_).elim
        unfold entOf
        dsimp only
        rw [e1, e2]
      · exact h1
    refine ⟨a, us, ds, rfl, rfl, n, b, fun o => ?_, q, g⟩
    exact R.nown n (((fr_end R F).sl.ownA a).mp o)
theorem def_read {np nl : Nat} {body : CS} {N : List Str} {Q : VK} {E0 : XK} (hl : N.length = nl) (hnp : np ≤ nl) (h : spD K np (fnSem np nl io body) vs H Q E0) : tS K io body { nx := fun _ H' => Q .non H', rt := Q } (L2.start N vs) H := by
  obtain ⟨hlen, B, svs, r, outs, R, e, k⟩ := h
  unfold fnSem at e
  split at e
  · rename_i hc
    have hs : L2.start N vs = slots vs ++ List.replicate (nl - np) none := by
      unfold L2.start
      rw [hl, hlen]
    have F := fr_start (n := nl - np) (m := nl - np) R (by rw [hlen, hc.1])
    refine ⟨entOf B H vs svs (slots vs ++ List.replicate (nl - np) none) (envs svs ++ List.replicate (nl - np) none), B, envs svs ++ List.replicate (nl - np) none, ?_⟩
    rw [hs]
    have hio : ∀ (j : Nat) a, (entOf B H vs svs (slots vs ++ List.replicate (nl - np) none) (envs svs ++ List.replicate (nl - np) none)).io j = some a → j ∈ io := fun j a z => by
      obtain ⟨⟨xs, q⟩, _⟩ := entOf_io z
      have := ownsIn_get hc.2 q
      rw [Nat.zero_add] at this
      exact this
    split at e
    · rename_i r' ρ' e1
      cases e
      exact ⟨.rt r, ρ', F, hio, e1, fun v σ' B' H' F' rv => k v B' H' (fr_end R F') (fr_ret R F' rv)⟩
    · rename_i ρ' e1
      cases e
      exact ⟨.nx, ρ', F, hio, e1, fun σ' B' H' F' => k .non B' H' (fr_end R F') .non⟩
    · cases e
  · cases e
/-- a def by its body -/
theorem fnG_of {P : Program} {w : World} {K : PySem.W.Frag} {mg : Str → Option Value} {base : Heap} {x qual : Str} {st : Stmt} {f : Addr} {fd : FuncData} {N ps : List Str} {k nl np : Nat} {body : CS} (F : L2.Fun K x qual st f fd) (S : FnScope N ps (defScope st)) (hps : ps.length = np) (hl : N.length = nl) (hnp : np ≤ nl)
    (hbody : ∀ (cdv : Value) (A : Around) (outer : List PySem.Env) (s : Shared) (H : Hp) (E : XK), RoomG k (A.deeper (envOfC qual (defScope st) s.heap.objs.size f cdv)) → DSs (cxOf L2.CX0 P w K mg base N qual (defScope st) f cdv A outer s H E).nox io (defBody st) body) :
    FnG P w K mg base (k + 1) f fd ps (spD K np (fnSem np nl io body)) := by
  obtain ⟨oc, od, kV, doc, pm, an, cdv, ct, osl, rfl, lk, hcd⟩ := F.ex
  refine ⟨fun vs H Q E h => h.1.trans hps.symm, fun A outer s H args us vs Q E hr e0 hb r hsp => ?_⟩
  have hlen : vs.length = ps.length := hsp.1.trans hps.symm
  have still : ∀ b o, base.get? b = some o → s.heap.get? b = some o := fun b o e => (e0.bs b o e).1
  have kinds : ∀ y ∈ ps.zip us, (defScope st).names.lookup y.1 = some .local ∨ ((defScope st).names.lookup y.1 = some .cell ∧ ((cellsFrom (s.heap.objs.size + 1) (defScope st).names []).lookup y.1).isSome = true) := fun y hy =>
    (S.par y.1 (List.of_mem_zip (a := y.1) (b := y.2) hy).1).imp_right fun q => ⟨q, PySem.W.cellsFrom_some _ _ _ (.inl q)⟩
  have inK : K.In s.heap := e0.mod.kin.keeps still
  refine codeAny_call_function hr.r.depth (inK _ _ lk) rfl S.co S.gen rfl (PySem.W.codeRec_of inK hcd) (hb _ _ _ _ (wpAny_newFunctionEnv_cells S.kind kinds fun env he s1 x => ?_))
  subst he
  refine ⟨(e0.mod.nolimit.keeps still).keeps x.toInCall.keep, codeAny_func ?_⟩
  have I : Inv (cxOf L2.CX0 P w K mg base N qual (defScope st) f cdv A outer s H E) [] (L2.start N vs) H s1 := inv_start S hr.r.hd e0 hlen r x
  have T := PSs.nox (hbody cdv A outer s H E ⟨hr.r.deeper _, hr.gd⟩).ps
  refine wpAny_mono (T.run [] s1 (L2.start N vs) H _ I (def_read hl hnp hsp)) (fun fl s' hs => ?_) fun e s' hs => hs
  cases fl with
  | brk =>
    obtain ⟨_, _, _, q⟩ := hs
    exact q.elim
  | cont =>
    obtain ⟨_, _, _, q⟩ := hs
    exact q.elim
  | ret u =>
    obtain ⟨v, σ', H', J, rv, q⟩ := hs
    exact ⟨v, H', J.os, J.bare, J.base, J.hok, rv, q⟩
  | next =>
    obtain ⟨σ', H', J, q⟩ := hs
    exact ⟨V.non, H', J.os, J.bare, J.base, J.hok, rfl, q⟩
end
end DL

/-! DL13: sorting data that are alike; tuples among them may be without items. -/
namespace PySem.W
open PySem PySem.Calls PyProof.Rows PySem.SeqAt
section
variable {prog : Program} {w : World} {A : Around} {E : Value → Shared → Prop} {s : Shared} {M : Model}
theorem dl_tuple_lt {Q : Value → Shared → Prop} {l b : Addr} {items items2 : Array Value} {e r : Nat → Bool} (hl : s.heap.IsTuple l items) (hb : s.heap.IsTuple b items2)
    (he : ∀ j (h1 : j < items.size) (h2 : j < items2.size), EqAt A.in1 s items[j] items2[j] (e j)) (hr : ∀ j (h1 : j < items.size) (h2 : j < items2.size), e j = false → RcLt A.in1 s items[j] items2[j] (r j))
    (h : Q (.bool (firstLt e r (decide (items.size < items2.size)) (List.range (min items.size items2.size)))) s) : wpAny (model prog w) A (call (.builtin "tuple.__lt__") [.ref l, .ref b]) Q E s := by
  obtain ⟨⟨cls, dd, data, sl⟩, ho, hc, n, hd⟩ := id hl
  obtain ⟨⟨cls2, dd2, data2, sl2⟩, ho2, hc2, n2, hd2⟩ := id hb
  simp only at hc hd hc2 hd2
  subst hc hd hc2 hd2
  exact call_meets F.slot_tuple_lt ⟨_, ho, rfl⟩ F.entry_tuple_lt (F.args_tuple_lt_2 _ _) (tuple_ltAt l b items items2 n n2 dd dd2 sl sl2 e r) ⟨ho, ho2, he, hr, h⟩
theorem dl_oneLt {xs ys : List PyData} {a b : Value} {as bs : List Addr} {Q : Bool → Shared → Prop} (ra : Reads s.heap a (.tuple xs) as) (rb : Reads s.heap b (.tuple ys) bs) (h : alike (.tuple xs) (.tuple ys) = true)
    (hu : A.units + min (PyData.tuple xs).depth (PyData.tuple ys).depth < cLine) (hq : Q (dataLt (.tuple xs) (.tuple ys)) s) : wpAny (model prog w) A (oneLt' true a b) Q E s := by
  have hal : alikeAll xs ys = true := by simpa [alike] using h
  cases ra with
  | @tuple l o vs n _ as₁ h1 h2 h3 h4 =>
    cases rb with
    | @tuple l' o' vs' n' _ bs₁ k1 k2 k3 k4 =>
      have n1 : vs.size = xs.length := by simpa using ReadsAll.length _ _ _ h4
      have n2 : vs'.size = ys.length := by simpa using ReadsAll.length _ _ _ k4
      rw [dataLt_tuple, ← firstLt_toks xs ys hal, ← n1, ← n2] at hq
      rw [oneLt'_eq]
      simp only [if_true]
      refine wpAny_bind (wpAny_cRoomFor (room_here hu) ?_)
      refine wpAny_bind (wpAny_callSpecialIfBound?_slot (T := "tuple") ⟨_, h1, h2⟩ F.slot_tuple_lt (dl_tuple_lt (e := pairEq xs ys) (r := fun j => dataLt (xs.getD j .none) (ys.getD j .none)) ⟨_, h1, h2, _, h3⟩ ⟨_, k1, k2, _, k3⟩ (fun j j1 j2 => ?_) (fun j j1 j2 hj => ?_) ?_))
      · have := eqAt_alikeAll xs ys A.in1 s vs.toList vs'.toList _ _ h4 k4 hal (room_in hu) j (by simpa using j1) (by simpa using j2)
        simpa using this
      · have := rcLt_alikeAll xs ys A.in1 s vs.toList vs'.toList _ _ h4 k4 hal (room_in hu) j (by simpa using j1) (by simpa using j2) hj
        simpa using this
      · exact wpAny_truthy_bool hq
/-- the firsts of tuples -/
theorem dl_firsts : ∀ {vs : List Value} {ds : List PyData}, EachIs (fun v d => ∃ as, Reads s.heap v d as) vs ds → (∀ d, d ∈ ds → ∃ xs, d = .tuple xs) →
    ∃ os : List (Option Value), os.length = vs.length ∧ (∀ i : Nat, ds[i]? = some (.tuple []) → os[i]? = some none) ∧ (∀ (i : Nat) x r, ds[i]? = some (.tuple (x :: r)) → ∃ f, os[i]? = some (some f)) ∧ ∀ (M : Model) (A : Around) (E : Value → Shared → Prop) (Q : List (Option Value) → Shared → Prop), Q os s → wpAny M A (vs.mapM firstOfTuple') Q E s
  | _, _, .nil, _ => ⟨[], rfl, fun i h => by simp at h, fun i x r h => by simp at h, fun M A E Q h => by rw [List.mapM_nil]; exact wpAny_pure h⟩
  | _, _, .cons (b := d) (bs := ds) ⟨as, r⟩ t, ht => by
    obtain ⟨os, h1, h2, h3, h4⟩ := dl_firsts t fun d hd => ht d (List.mem_cons_of_mem _ hd)
    obtain ⟨xs, rfl⟩ := ht d (List.mem_cons_self ..)
    cases r with
    | @tuple a o vs n _ _ ho hc hd hr =>
      refine ⟨vs[0]? :: os, by rw [List.length_cons, List.length_cons, h1], fun i h => ?_, fun i x r h => ?_, fun M A E Q h => ?_⟩
      · cases i with
        | zero =>
          have e : xs = [] := by
            have := Option.some.inj h
            injection this
          subst e
          cases q : vs.toList with
          | nil =>
            have : vs = #[] := by simpa using q
            rw [this]
            rfl
          | cons f fr =>
            rw [q] at hr
            cases hr
        | succ i => exact h2 i h
      · cases i with
        | zero =>
          have e : xs = x :: r := by
            have := Option.some.inj h
            injection this
          subst e
          cases q : vs.toList with
          | nil =>
            rw [q] at hr
            cases hr
          | cons f fr =>
            refine ⟨f, ?_⟩
            have hf : vs[0]? = some f := by rw [← Array.getElem?_toList, q]; rfl
            rw [hf]
            rfl
        | succ i => exact h3 i x r h
      · rw [List.mapM_cons]
        refine wpAny_bind ?_
        rw [kas_first_eq]
        refine wpAny_bind (Looks.here (show Looks M s.heap (typeOf (.ref a)) o.cls from (Looks.ld ho).andThen .now) ?_)
        rw [hc, if_neg (by first | decide | simp)]
        refine wpAny_bind (listItems_at ho hd (wpAny_pure ?_))
        exact wpAny_bind (h4 M A E (fun bs s' => wpAny M A (pure (vs[0]? :: bs)) Q E s') (wpAny_pure h))
theorem sorts_tuples {vs : List Value} {ds : List PyData} (e : EachIs (fun v d => ∃ as, Reads s.heap v d as) vs ds) (hal : AllAlike ds) (ht : ∀ d, d ∈ ds → ∃ xs, d = .tuple xs) (hu : ∀ d, d ∈ ds → A.units + d.depth < cLine) : SortsAt prog w A s (dataKind s.heap ds) vs := by
  by_cases hne : ∀ d, d ∈ ds → ∃ x r, d = .tuple (x :: r)
  · exact SortsAt.data e hal (.inl hne) hu
  have room : ∀ {d d' : PyData}, d ∈ ds → A.units + min d.depth d'.depth < cLine := fun {d d'} hd => Nat.lt_of_le_of_lt (Nat.add_le_add_left (Nat.min_le_left _ _) _) (hu d hd)
  obtain ⟨os, o1, o2, o3, o4⟩ := dl_firsts e ht
  have hl : vs.length = ds.length := e.length
  have hempty : ∃ i : Nat, ds[i]? = some (.tuple []) := by
    refine Classical.byContradiction fun hno => hne fun d hd => ?_
    obtain ⟨xs, rfl⟩ := ht d hd
    cases xs with
    | nil =>
      obtain ⟨i, hi⟩ := List.getElem?_of_mem hd
      exact (hno ⟨i, hi⟩).elim
    | cons x r => exact ⟨x, r, rfl⟩
  obtain ⟨i, hi⟩ := hempty
  have hnone := o2 i hi
  have hall : ¬ (os.toArray.all fun x => x.isSome) = true := by
    intro h
    have h' : os.all (fun x => x.isSome) = true := by simpa using h
    have := List.all_eq_true.mp h' none (List.mem_of_getElem? hnone)
    cases this
  have lt : ∀ kd, (kd = general' ∨ kd = oneType') → H.LtAt prog w A s (dataKind s.heap ds) kd := by
    intro kd hk E x y a b Q ha hb hq
    obtain ⟨d, as, hd, ra, rfl⟩ := dataKind_inv ha
    obtain ⟨d', as', hd', rb, rfl⟩ := dataKind_inv hb
    obtain ⟨xs, rfl⟩ := ht d hd
    obtain ⟨ys, rfl⟩ := ht d' hd'
    rcases hk with rfl | rfl
    · show wpAny (model prog w) A (oneLt' false x y) Q E s
      exact oneLt_alike (fun z => nomatch z) ra rb (hal _ hd _ hd') (fun z => nomatch z) (room hd) hq
    · rw [keyLt'_oneType]
      exact dl_oneLt ra rb (hal _ hd _ hd') (room hd) hq
  refine ⟨fun v hv => ?_, ?_⟩
  · obtain ⟨d, hd, as, r⟩ := e.left v hv
    exact ⟨_, dataKind_some hal hd r⟩
  · by_cases hf : (os.toArray[0]?.bind id).isSome = true
    · refine ⟨general', lt _ (.inl rfl), fun h2 E Q hq => ?_⟩
      rw [keyKind'_eq, List.mapM_toArray, map_eq_pure_bind]
      refine wpAny_bind (wpAny_bind (o4 _ _ _ _ (wpAny_pure ?_)))
      rw [if_neg hall, if_pos hf]
      exact wpAny_pure hq
    · refine ⟨oneType', lt _ (.inr rfl), fun h2 E Q hq => ?_⟩
      rw [keyKind'_eq, List.mapM_toArray, map_eq_pure_bind]
      refine wpAny_bind (wpAny_bind (o4 _ _ _ _ (wpAny_pure ?_)))
      rw [if_neg hall, if_neg hf]
      rw [oneTypeOnly'_eq, List.mapM_toArray, map_eq_pure_bind]
      refine wpAny_bind (wpAny_bind (wpAny_bind (kas_mapM (r := Value.type "tuple") _ (fun v hv Q' hq => ?_) (wpAny_pure ?_))))
      · obtain ⟨d, hd, as, r⟩ := e.left v hv
        obtain ⟨xs, rfl⟩ := ht d hd
        exact (looks_reads r).here hq
      · have hall2 : ((List.map (fun _ => Value.type "tuple") vs).toArray.all fun x => x == Value.type "tuple") = true := by
          simp only [List.all_toArray, List.all_map, List.all_eq_true]
          intro _ _
          exact beq_self_eq_true _
        have h0 : (List.map (fun _ => Value.type "tuple") vs).toArray[0]? = some (Value.type "tuple") := by
          cases vs with
          | nil => simp at h2
          | cons v vs => simp
        rw [h0]
        simp only [hall2, if_true]
        exact wpAny_pure (wpAny_pure hq)
/-- all tuples, or none is a tuple or None -/
def Sortable' (ds : List PyData) : Prop := (∀ d, d ∈ ds → ∃ xs, d = .tuple xs) ∨ ∀ d, d ∈ ds → d ≠ .none ∧ ∀ xs, d ≠ .tuple xs
theorem sorts_data' {vs : List Value} {ds : List PyData} (e : EachIs (fun v d => ∃ as, Reads s.heap v d as) vs ds) (hal : AllAlike ds) (hk : Sortable' ds) (hu : ∀ d, d ∈ ds → A.units + d.depth < cLine) : SortsAt prog w A s (dataKind s.heap ds) vs :=
  hk.elim (fun h => sorts_tuples e hal h hu) fun h => SortsAt.data e hal (.inr h) hu
theorem sorted_data' {β : Type} {vs : List Value} {bs : List β} {enc : β → PyData} {R : Value → β → Prop} {l : Addr} {Q : Value → Shared → Prop} (hl : s.heap.IsList l vs.toArray) (e : EachIs R vs bs) (er : EachIs (fun v b => ∃ as, Reads s.heap v (enc b) as) vs bs) (hal : AllAlike (bs.map enc)) (hk : Sortable' (bs.map enc)) (hL : bs.length ≤ sizeLine)
    (hu : ∀ b, b ∈ bs → A.units + 2 + (enc b).depth < cLine) (h : ∀ out, out.length = bs.length → EachIs R out (bs.mergeSort (dataLe false enc)) → Q (.ref (s.heap.objs.size + 1)) { s with heap := sortedAll s.heap vs (List.toArray out) }) :
    wpAny (model prog w) A (call (.builtin "sorted") [.ref l]) Q E s := by
  have er' : EachIs (fun v b => ∃ as, Reads (sortingHeap (copyHeap s.heap vs) (s.heap.objs.size + 1) vs) v (enc b) as) vs bs := er.mono fun _ _ ⟨as, r⟩ => ⟨as, PyProof.Rows.Reads.keeps (fun _ _ => sorting_copy_old) r⟩
  exact sorted_vals hl (sorts_data' (s := { s with heap := sortingHeap (copyHeap s.heap vs) (s.heap.objs.size + 1) vs }) (each_map (R := fun v d => ∃ as, Reads (sortingHeap (copyHeap s.heap vs) (s.heap.objs.size + 1) vs) v d as) enc er') hal hk (bound_map hu)) (by rw [e.length]; exact hL)
    (h _ (by rw [sortVals_length false rfl]; exact e.length) (sortVals_data false e er' hal))
end
end PySem.W

/-! DL14: operations on data. -/
namespace DL
open PySem PySem.Spec PyProof.Rows L2
section
variable {K : PySem.W.Frag} {B B' B'' B1 B2 W : Addr → Prop} {σ σ' : L2.St} {H H0 H' H'' H1 H2 : Hp} {ρ ρ' ρ1 ρ2 : Env} {r : Val} {v u : V} {vs us : List V} {X : Cx} {a b : Addr} {ds es xs ys : List PyData} {x y : PyData} {Q : VK}
abbrev tr0 (B : Addr → Prop) (H : Hp) : Prop := ∀ b, B b → H b ≠ none
def oB (b : Bool) : Option Val := some (.d (.bool b))
def oI (i : Int) : Option Val := some (.d (.int i))
theorem Outc.bl {b : Bool} (k : Outc K B H (.d (.bool b)) Q) : Q (.bl b) H := k _ H (Same.refl H) (Good.bl b)
theorem Outc.int {i : Int} (k : Outc K B H (.d (.int i)) Q) : Q (.int i) H := k _ H (Same.refl H) (Good.int i)
theorem Outc.str {i : Str} (k : Outc K B H (.d (.str i)) Q) : Q (.str i) H := k _ H (Same.refl H) (Good.str i)
theorem Outc.good (k : Outc K B H (.d x) Q) (g : Good K B H v x) : Q v H := k _ H (Same.refl H) g
theorem Outc.newL (k : Outc K B H (.n (.list ds)) Q) (g : GoodAll K B H vs ds) : ∀ p, H p = none → Q (.ref p) (upd H p (.lst vs)) := fun p n => k _ _ (same_updD n) (OutV.lst n g)
theorem Outc.newT (k : Outc K B H (.d (.tuple ds)) Q) (t : tr0 B H) (g : GoodAll K B H vs ds) : ∀ p, H p = none → Q (.ref p) (upd H p (.tup vs)) := fun p n => k _ _ (same_updD n) (OutV.tup t n g)
theorem Read.goodT (h : Read K B H v (.tuple ds)) : Good K B H v (.tuple ds) := by
  rcases h with g | ⟨_, _, _, _, e, _⟩
  · exact g
  · cases e

/-! ### ints -/
def gI2 (f : Int → Int → Option Val) : PyData → PyData → Option Val
  | .int i, .int j => f i j
  | _, _ => none
theorem gI2_some {f : Int → Int → Option Val} {out : Val} (h : gI2 f x y = some out) : ∃ i j, x = .int i ∧ y = .int j ∧ f i j = some out := by
  unfold gI2 at h
  split at h
  · exact ⟨_, _, rfl, rfl, h⟩
  · cases h
theorem sound_i0 {f : Int → Int → Int} : Sound2 K (gI2 fun i j => oI (f i j)) (rI0 fun i j => .int (f i j)) := by
  intro B H v u x y out Q t r1 r2 e k
  obtain ⟨i, j, rfl, rfl, e⟩ := gI2_some e
  cases e
  exact ⟨i, j, r1.int, r2.int, k.int⟩
theorem sound_b0 {f : Int → Int → Bool} : Sound2 K (gI2 fun i j => oB (f i j)) (rI0 fun i j => .bl (f i j)) := by
  intro B H v u x y out Q t r1 r2 e k
  obtain ⟨i, j, rfl, rfl, e⟩ := gI2_some e
  cases e
  exact ⟨i, j, r1.int, r2.int, k.bl⟩
theorem sound_i {C : Int → Int → Prop} [d : ∀ i j, Decidable (C i j)] {f : Int → Int → Int} : Sound2 K (gI2 fun i j => if C i j then oI (f i j) else none) (rI C fun i j => .int (f i j)) := by
  intro B H v u x y out Q t r1 r2 e k
  obtain ⟨i, j, rfl, rfl, q⟩ := gI2_some e
  split at q
  · rename_i c
    cases q
    exact ⟨i, j, r1.int, r2.int, c, k.int⟩
  · cases q
theorem marks2 {o1 o2 : CmpOp} {b : Expr} (c : Expr) (h : o2 ≠ .In := by decide) (h2 : o2 ≠ .NotIn := by decide) : lastMarks [o1, o2] [b, c] = false := nomark c h h2
def gLt := gI2 fun i j => oB (decide (i < j))
def gLe := gI2 fun i j => oB (decide (i ≤ j))
def gGt := gI2 fun i j => oB (decide (j < i))
def gGe := gI2 fun i j => oB (decide (j ≤ i))
def gSub := gI2 fun i j => oI (i - j)
instance decMod : ∀ i j : Int, Decidable ((fun _ j => 0 < j : Int → Int → Prop) i j) := fun _ j => inferInstanceAs (Decidable (0 < j))
instance decDiv : ∀ i j : Int, Decidable (CDivP i j) := fun i j => inferInstanceAs (Decidable (0 < j ∧ Builtin.divisionGoesByPylong i j = false))
instance decPow : ∀ i j : Int, Decidable (CPow i j) := fun i j => inferInstanceAs (Decidable (0 ≤ j ∧ j ≤ 1000000 ∧ i.natAbs < 2 ^ 64))
instance decMul : ∀ i j : Int, Decidable (CMul i j) := fun i j => inferInstanceAs (Decidable ((-(2 ^ 64) < i ∧ i < 2 ^ 64) ∨ (-(2 ^ 64) < j ∧ j < 2 ^ 64)))
def gMod := gI2 fun i j => if (fun _ j => 0 < j : Int → Int → Prop) i j then oI (i % j) else none
def gPow := gI2 fun i j => if CPow i j then oI (i ^ j.toNat) else none
def gFdv := gI2 fun i j => if CDivP i j then oI (i / j) else none
theorem de_lt {a b : Expr} {ca cb : CE} {pos : Pos} (ha : DE X a ca) (hb : DE X b cb) : DE X (.Compare a [.Lt] [b] pos) (cOp2 gLt ca cb) := de_cmp op_lt sound_b0 (nomark _) ha hb
theorem dt_lt {a b : Expr} {ca cb : CE} {pos : Pos} (ha : DE X a ca) (hb : DE X b cb) : DT X (.Compare a [.Lt] [b] pos) (cTst (cOp2 gLt ca cb)) := dt_cmp op_lt sound_b0 (nomark _) ha hb
theorem de_le {a b : Expr} {ca cb : CE} {pos : Pos} (ha : DE X a ca) (hb : DE X b cb) : DE X (.Compare a [.LtE] [b] pos) (cOp2 gLe ca cb) := de_cmp op_le sound_b0 (nomark _) ha hb
theorem dt_le {a b : Expr} {ca cb : CE} {pos : Pos} (ha : DE X a ca) (hb : DE X b cb) : DT X (.Compare a [.LtE] [b] pos) (cTst (cOp2 gLe ca cb)) := dt_cmp op_le sound_b0 (nomark _) ha hb
theorem de_gt {a b : Expr} {ca cb : CE} {pos : Pos} (ha : DE X a ca) (hb : DE X b cb) : DE X (.Compare a [.Gt] [b] pos) (cOp2 gGt ca cb) := de_cmp op_gt sound_b0 (nomark _) ha hb
theorem dt_gt {a b : Expr} {ca cb : CE} {pos : Pos} (ha : DE X a ca) (hb : DE X b cb) : DT X (.Compare a [.Gt] [b] pos) (cTst (cOp2 gGt ca cb)) := dt_cmp op_gt sound_b0 (nomark _) ha hb
theorem de_ge {a b : Expr} {ca cb : CE} {pos : Pos} (ha : DE X a ca) (hb : DE X b cb) : DE X (.Compare a [.GtE] [b] pos) (cOp2 gGe ca cb) := de_cmp op_ge sound_b0 (nomark _) ha hb
theorem dt_ge {a b : Expr} {ca cb : CE} {pos : Pos} (ha : DE X a ca) (hb : DE X b cb) : DT X (.Compare a [.GtE] [b] pos) (cTst (cOp2 gGe ca cb)) := dt_cmp op_ge sound_b0 (nomark _) ha hb
theorem de_sub {a b : Expr} {ca cb : CE} {pos : Pos} (ha : DE X a ca) (hb : DE X b cb) : DE X (.BinOp a .Sub b pos) (cOp2 gSub ca cb) := de_bin op_sub sound_i0 ha hb
theorem de_mod {a b : Expr} {ca cb : CE} {pos : Pos} (ha : DE X a ca) (hb : DE X b cb) : DE X (.BinOp a .Mod b pos) (cOp2 gMod ca cb) := de_bin op_mod sound_i ha hb
theorem de_pow {a b : Expr} {ca cb : CE} {pos : Pos} (ha : DE X a ca) (hb : DE X b cb) : DE X (.BinOp a .Pow b pos) (cOp2 gPow ca cb) := de_bin op_pow sound_i ha hb
theorem op_fdivP : OpR X (binaryOp .FloorDiv) (rI CDivP fun i j => .int (i / j)) := opI fun i j _ _ _ _ _ hc q => by
  rw [← Int.fdiv_eq_ediv_of_nonneg i (Int.le_of_lt hc.1)] at q
  exact floordiv_int (Int.ne_of_gt hc.1) q (.inl hc.2)
theorem de_fdv {a b : Expr} {ca cb : CE} {pos : Pos} (ha : DE X a ca) (hb : DE X b cb) : DE X (.BinOp a .FloorDiv b pos) (cOp2 gFdv ca cb) := de_bin op_fdivP sound_i ha hb
theorem de_lele {a b c : Expr} {ca cb cc : CE} {pos : Pos} (ha : DE X a ca) (hb : DE X b cb) (hc : DE X c cc) : DE X (.Compare a [.LtE, .LtE] [b, c] pos) (cChain gLe gLe ca cb cc) := de_chain op_le op_le sound_b0 sound_b0 ha hb hc (marks2 _)
theorem de_lelt {a b c : Expr} {ca cb cc : CE} {pos : Pos} (ha : DE X a ca) (hb : DE X b cb) (hc : DE X c cc) : DE X (.Compare a [.LtE, .Lt] [b, c] pos) (cChain gLe gLt ca cb cc) := de_chain op_le op_lt sound_b0 sound_b0 ha hb hc (marks2 _)
theorem dt_lele {a b c : Expr} {ca cb cc : CE} {pos : Pos} (ha : DE X a ca) (hb : DE X b cb) (hc : DE X c cc) : DT X (.Compare a [.LtE, .LtE] [b, c] pos) (cTst (cChain gLe gLe ca cb cc)) := dt_chain op_le op_le sound_b0 sound_b0 ha hb hc (marks2 _)
theorem dt_lelt {a b c : Expr} {ca cb cc : CE} {pos : Pos} (ha : DE X a ca) (hb : DE X b cb) (hc : DE X c cc) : DT X (.Compare a [.LtE, .Lt] [b, c] pos) (cTst (cChain gLe gLt ca cb cc)) := dt_chain op_le op_lt sound_b0 sound_b0 ha hb hc (marks2 _)
def gNeg : PyData → Option Val
  | .int i => oI (-i)
  | _ => none
theorem de_neg {a : Expr} {ca : CE} {pos : Pos} (ha : DE X a ca) : DE X (.UnaryOp .USub a pos) (cOp1 gNeg ca) := by
  refine de_un un_neg ?_ ha
  intro B H v x out Q t r1 e k
  unfold gNeg at e
  split at e
  · cases e
    exact ⟨_, r1.int, k.int⟩
  · cases e

/-! ### + and * -/
def rCatL (K : PySem.W.Frag) : R2 := fun x y H Q => ∃ l b xs zs, x = .ref l ∧ y = .ref b ∧ SqL K H l xs ∧ SqL K H b zs ∧ xs.length + zs.length ≤ sizeLine ∧ ∀ p, H p = none → Q (.ref p) (upd H p (.lst (xs ++ zs)))
theorem op_catL : OpR X (binaryOp .Add) (rCatL X.K) := by
  intro pins s σ H x y v u Q I rx ry h
  obtain ⟨l, b, xs, zs, rfl, rfl, h1, h2, hz, q⟩ := h
  cases rx
  cases ry
  obtain ⟨its, r, hl, hl0⟩ := I.list h1
  obtain ⟨its2, r2, hl2, hl3⟩ := I.list h2
  obtain ⟨⟨cls, dd, data, sl⟩, ho, hc, n, hd⟩ := hl.isList
  obtain ⟨⟨cls2, dd2, data2, sl2⟩, ho2, hc2, n2, hd2⟩ := hl2.isList
  simp only at hc hd hc2 hd2
  subst hc hd hc2 hd2
  have hz' : its.length + its2.length ≤ sizeLine := by rw [← r.length, ← r2.length]; exact hz
  have e : its.toArray ++ its2.toArray = (its ++ its2).toArray := by simp
  refine concat_meets ⟨_, ho, rfl⟩ ⟨_, ho2, rfl⟩ noFill_list_add seq_list_add PySem.F.slot_list_add PySem.F.entry_list_add (PySem.F.args_list_add_2 _ _) (list_addW l b its.toArray its2.toArray n n2 dd dd2 sl sl2 (by simpa using hz')) ⟨ho, ho2, ?_⟩
  rw [e]
  exact ⟨.ref _, _, I.lnew (t' := s.toks) (r.append r2) (by rw [List.length_append]; omega), rfl, q _ I.fresh⟩
def gAdd : PyData → PyData → Option Val
  | .int i, .int j => oI (i + j)
  | .str i, .str j => if i.length + j.length ≤ sizeLine then some (.d (.str (i ++ j))) else none
  | .tuple xs, .tuple ys => if xs.length + ys.length ≤ sizeLine then some (.d (.tuple (xs ++ ys))) else none
  | .list xs, .list ys => if xs.length + ys.length ≤ sizeLine then some (.n (.list (xs ++ ys))) else none
  | _, _ => none
theorem de_add {a b : Expr} {ca cb : CE} {pos : Pos} (ha : DE X a ca) (hb : DE X b cb) : DE X (.BinOp a .Add b pos) (cOp2 gAdd ca cb) := by
  refine de_bin (op_add.or (op_catA.or (op_catL.or op_add_str))) ?_ ha hb
  intro B H v u x y out Q t r1 r2 e k
  unfold gAdd at e
  split at e
  · cases e
    exact .inl ⟨_, _, r1.int, r2.int, k.int⟩
  · split at e
    · rename_i hz
      cases e
      exact .inr (.inr (.inr ⟨_, _, r1.str, r2.str, hz, k.str⟩))
    · cases e
  · rename_i xs ys
    split at e
    · rename_i hz
      cases e
      obtain ⟨a, vs, rfl, s1, g1⟩ := r1.tup
      obtain ⟨b, us, rfl, s2, g2⟩ := r2.tup
      refine .inr (.inl ⟨a, b, vs, us, rfl, rfl, s1, s2, by rw [g1.len, g2.len]; exact hz, fun h => ?_, fun _ h => ?_, fun _ _ => k.newT t (g1.app g2)⟩)
      · subst h
        cases g1
        exact k.good r2.goodT
      · subst h
        cases g2
        rw [List.append_nil] at k
        exact k.good r1.goodT
    · cases e
  · rename_i xs ys
    split at e
    · rename_i hz
      cases e
      obtain ⟨a, vs, rfl, s1, g1⟩ := r1.list
      obtain ⟨b, us, rfl, s2, g2⟩ := r2.list
      exact .inr (.inr (.inl ⟨a, b, vs, us, rfl, rfl, s1, s2, by rw [g1.len, g2.len]; exact hz, k.newL (g1.app g2)⟩))
    · cases e
  · cases e
def rRepL (K : PySem.W.Frag) : R2 := fun x y H Q => ∃ l k xs, x = .ref l ∧ y = .int k ∧ SqL K H l xs ∧ -(2 ^ 63) ≤ k ∧ k < 2 ^ 63 ∧ xs.length * k.toNat ≤ 2 ^ 24 ∧
  ∀ p, H p = none → Q (.ref p) (upd H p (.lst (List.replicate k.toNat xs).flatten))
theorem op_repL : OpR X (binaryOp .Mult) (rRepL X.K) := by
  intro pins s σ H x y v u Q I rx ry h
  obtain ⟨l, k, xs, rfl, rfl, h1, hlo, hhi, hz, q⟩ := h
  cases rx
  obtain ⟨t, rfl⟩ := ry
  obtain ⟨its, r, hl, hl0⟩ := I.list h1
  obtain ⟨⟨cls, d, data, sl⟩, ho, hcl, n, hd⟩ := hl.isList
  simp only at hcl hd
  subst hcl hd
  have hsz' : its.toArray.size * k.toNat ≤ 2 ^ 24 := by rw [List.size_toArray, ← r.length]; exact hz
  have hf : (List.replicate k.toNat its).flatten.length ≤ sizeLine := by
    rw [PyProof.Rows.lm_len_rep_flat, Nat.mul_comm, ← r.length]
    exact hz
  refine wpAny_binaryOp_repeat_ref (T := "list") (U := "int") (by decide) ⟨_, ho, rfl⟩ (fun s' => typeIs_int s' k t) noFill_list_mul PySem.F.fills_int_mul PySem.F.slot_int_rmul repeat_list PySem.F.slot_int_index.lookup
    (call_meets PySem.F.slot_int_rmul (typeIs_int s k t) PySem.F.entry_int_rmul (PySem.F.args_int_rmul_2 _ _) (lm_int_rmul_list_any k t l its.toArray n d sl)
      ⟨ho, rfl, ⟨_, ho, rfl⟩, call_meets PySem.F.slot_list_mul ⟨_, ho, rfl⟩ PySem.F.entry_list_mul (PySem.F.args_list_mul_2 _ _)
        (lm_list_mul_any l its.toArray n d sl k t (by simp [Builtin.List.listFitsIndex]; omega) (by omega) (by simp [Builtin.List.listTooLong, sizeLine]; omega))
        ⟨ho, ?_⟩⟩)
  rw [listMul_foldl_if]
  exact ⟨.ref _, _, I.lnew (t' := s.toks) (r.rep k.toNat) (by rw [PyProof.Rows.lm_len_rep_flat, Nat.mul_comm]; exact hz), rfl, q _ I.fresh⟩
/-- a tuple without items, times a number: itself -/
theorem tuple_mul0 (l : Addr) (n : Nat) (dd : Option Addr) (sl : Array (Option Value)) (x : Int) (u : Tok) (c0 : (decide (x < -(2 ^ 63)) || decide (x ≥ 2 ^ 63)) = false) :
    Meets (Builtin.«tuple.__mul__» ⟨[.ref l, .int x u], []⟩) (fun _ R s => s.heap.get? l = some { cls := .type "tuple", dict := dd, data := .seq #[] n, slots := sl } ∧ R (.ok (.ret (Value.ref l))) s) :=
  .of_wp fun prog w A R s h => by
    obtain ⟨hp, g, d, tk, os⟩ := s
    obtain ⟨hl, h⟩ := h
    have f1 := AutoSeq1.idx_int
    wp_walk using wpAny_loadPart' hl
    refine wpAny_ite_false (decide_eq_false (by rw [c0]; exact Bool.false_ne_true)) ?_
    wp_walk using wpAny_loadPart' hl
    exact ⟨_, rfl, h⟩
def gMul : PyData → PyData → Option Val
  | .int i, .int j => if CMul i j then oI (i * j) else none
  | .list xs, .int k => if -(2 ^ 63) ≤ k ∧ k < 2 ^ 63 ∧ xs.length * k.toNat ≤ 2 ^ 24 then some (.n (.list (List.replicate k.toNat xs).flatten)) else none
  | .tuple xs, .int k => if 2 ≤ k ∧ k ≤ 1000 ∧ xs.length ≤ 1000 then some (.d (.tuple (List.replicate k.toNat xs).flatten)) else none
  | _, _ => none
def rRep0 (K : PySem.W.Frag) : R2 := fun x y H Q => ∃ l k, x = .ref l ∧ y = .int k ∧ SqT K H l [] ∧ -(2 ^ 63) ≤ k ∧ k < 2 ^ 63 ∧ Q (.ref l) H
theorem op_rep0 : OpR X (binaryOp .Mult) (rRep0 X.K) := by
  intro pins s σ H x y v u Q I rx ry h
  obtain ⟨l, k, rfl, rfl, hT, h1, h2, q⟩ := h
  cases rx
  obtain ⟨t, rfl⟩ := ry
  obtain ⟨its, r, ⟨⟨cls, dd, data, sl⟩, ho, hc, n, hd⟩, hs⟩ := I.tuple hT
  cases r
  simp only at hc hd
  subst hc hd
  have c0 : (decide (k < -(2 ^ 63)) || decide (k ≥ 2 ^ 63)) = false := by
    rw [decide_eq_false (by omega), decide_eq_false (by omega)] <;> rfl
  exact wpAny_binaryOp_repeat_ref (T := "tuple") (U := "int") (by decide) ⟨_, ho, rfl⟩ (fun s' => typeIs_int s' k t) noFill_tuple_mul PySem.F.fills_int_mul PySem.F.slot_int_rmul repeat_tuple PySem.F.slot_int_index.lookup
    (call_meets PySem.F.slot_int_rmul (typeIs_int s k t) PySem.F.entry_int_rmul (PySem.F.args_int_rmul_2 _ _) (int_rmul_tuple k t l #[] n dd sl)
      ⟨ho, rfl, ⟨_, ho, rfl⟩, call_meets PySem.F.slot_tuple_mul ⟨_, ho, rfl⟩ PySem.F.entry_tuple_mul (PySem.F.args_tuple_mul_2 _ _) (tuple_mul0 l n dd sl k t c0) ⟨ho, .ref l, H, I, rfl, q⟩⟩)
theorem de_mul {a b : Expr} {ca cb : CE} {pos : Pos} (ha : DE X a ca) (hb : DE X b cb) : DE X (.BinOp a .Mult b pos) (cOp2 gMul ca cb) := by
  refine de_bin (op_mul.or (op_repL.or (op_repT.or op_rep0))) ?_ ha hb
  intro B H v u x y out Q t r1 r2 e k
  unfold gMul at e
  split at e
  · split at e
    · rename_i c
      cases e
      exact .inl ⟨_, _, r1.int, r2.int, c, k.int⟩
    · cases e
  · split at e
    · rename_i c
      cases e
      obtain ⟨a, vs, rfl, s1, g1⟩ := r1.list
      exact .inr (.inl ⟨a, _, vs, rfl, r2.int, s1, c.1, c.2.1, by rw [g1.len]; exact c.2.2, k.newL (g1.rep _)⟩)
    · cases e
  · rename_i xs i
    split at e
    · rename_i c
      cases e
      obtain ⟨a, vs, rfl, s1, g1⟩ := r1.tup
      cases xs with
      | nil =>
        cases g1
        have ee : (List.replicate i.toNat ([] : List PyData)).flatten = [] := lm_rep_nil _
        rw [ee] at k
        exact .inr (.inr (.inr ⟨a, i, rfl, r2.int, s1, by omega, by omega, k.good r1.goodT⟩))
      | cons z zs =>
        have hne : vs ≠ [] := fun z => by
          have := g1.len
          rw [z] at this
          cases this
        exact .inr (.inr (.inl ⟨a, i, vs, rfl, r2.int, s1, hne, c.1, c.2.1, by rw [g1.len]; exact c.2.2, k.newT t (g1.rep _)⟩))
    · cases e
  · cases e

/-! ### equality, membership -/
theorem nodict_of : ∀ {d : PyData}, SeqAt.shaped d = true → d.hasDict = false := by
  have go : (∀ d : PyData, d.canLay0 = true → d.hasDict = false) := by
    intro d
    refine PyData.rec (motive_1 := fun d => d.canLay0 = true → d.hasDict = false) (motive_2 := fun ds => PyData.canLayAll0 ds = true → PyData.hasDictAll ds = false) (motive_3 := fun _ => True) (motive_4 := fun _ => True) ?_ ?_ ?_ ?_ ?_ ?_ ?_ ?_ ?_ ?_ ?_ ?_ d <;> intros <;> simp_all [PyData.canLay0, PyData.canLayAll0, PyData.hasDict, PyData.hasDictAll]
  exact fun {d} h => go d (SeqAt.canLay_of_shaped h)
def gEq (x y : PyData) : Option Val := match x, y with
  | .str a, .str b => oB (decide (a = b))
  | _, _ => if SeqAt.shaped x = true ∧ SeqAt.shaped y = true then oB (PyData.eqv x y) else none
def gNe (x y : PyData) : Option Val := match x, y with
  | .str a, .str b => oB (!decide (a = b))
  | _, _ => if SeqAt.shaped x = true ∧ SeqAt.shaped y = true then oB (!PyData.eqv x y) else none
theorem dec_strV {a b : Str} : decide (V.str a = V.str b) = decide (a = b) := by
  rw [Bool.eq_iff_iff]
  simp
theorem sound_eq : Sound2 K gEq (fun x y H Q => rEq x y H Q ∨ rEqD K x y H Q) := by
  intro B H v u x y out Q t r1 r2 e k
  unfold gEq at e
  split at e
  · cases e
    rw [r1.str, r2.str]
    refine .inl ⟨rfl, ?_⟩
    rw [dec_strV]
    exact k.bl
  · split at e
    · rename_i c
      cases e
      exact .inr ⟨x, y, r1.toDp (nodict_of c.1), r2.toDp (nodict_of c.2), c.1, c.2, k.bl⟩
    · cases e
theorem sound_ne : Sound2 K gNe (fun x y H Q => rNe x y H Q ∨ rNeD K x y H Q) := by
  intro B H v u x y out Q t r1 r2 e k
  unfold gNe at e
  split at e
  · cases e
    rw [r1.str, r2.str]
    refine .inl ⟨rfl, ?_⟩
    rw [dec_strV]
    exact k.bl
  · split at e
    · rename_i c
      cases e
      exact .inr ⟨x, y, r1.toDp (nodict_of c.1), r2.toDp (nodict_of c.2), c.1, c.2, k.bl⟩
    · cases e
theorem de_eq {a b : Expr} {ca cb : CE} {pos : Pos} (hu : X.A.units + 64 < cLine) (ha : DE X a ca) (hb : DE X b cb) : DE X (.Compare a [.Eq] [b] pos) (cOp2 gEq ca cb) := de_cmp (op_eq.or (op_eqD hu)) sound_eq (nomark _) ha hb
theorem dt_eq {a b : Expr} {ca cb : CE} {pos : Pos} (hu : X.A.units + 64 < cLine) (ha : DE X a ca) (hb : DE X b cb) : DT X (.Compare a [.Eq] [b] pos) (cTst (cOp2 gEq ca cb)) := dt_cmp (op_eq.or (op_eqD hu)) sound_eq (nomark _) ha hb
theorem de_ne {a b : Expr} {ca cb : CE} {pos : Pos} (hu : X.A.units + 64 < cLine) (ha : DE X a ca) (hb : DE X b cb) : DE X (.Compare a [.NotEq] [b] pos) (cOp2 gNe ca cb) := de_cmp (op_ne.or (op_neD hu)) sound_ne (nomark _) ha hb
theorem dt_ne {a b : Expr} {ca cb : CE} {pos : Pos} (hu : X.A.units + 64 < cLine) (ha : DE X a ca) (hb : DE X b cb) : DT X (.Compare a [.NotEq] [b] pos) (cTst (cOp2 gNe ca cb)) := dt_cmp (op_ne.or (op_neD hu)) sound_ne (nomark _) ha hb
def rInT (K : PySem.W.Frag) (neg : Bool) : R2 := fun x y H Q => ∃ d ds, Dp K H x d ∧ Dp K H y (.tuple ds) ∧ SeqAt.shaped d = true ∧ SeqAt.shaped (.tuple ds) = true ∧ Q (.bl (neg ^^ ds.any fun z => PyData.eqv z d)) H
theorem op_inT (hu : X.A.units + 65 < cLine) : OpR X (compareOp .In) (rInT X.K false) := by
  intro pins s σ H x y v u Q I rx ry h
  obtain ⟨d, ds, hd, he, sd, se, q⟩ := h
  obtain ⟨as, r1⟩ := Dp.reads I d x v hd rx
  obtain ⟨bs, r2⟩ := Dp.reads I (.tuple ds) y u he ry
  refine SeqAt.in_tuple_reads r2 r1 (SeqAt.canLay_of_shaped se) (SeqAt.canLay_of_shaped sd) (room_in_shaped sd hu) ⟨.bl _, H, I, rfl, ?_⟩
  rw [Bool.false_xor] at q
  exact q
theorem op_notInT (hu : X.A.units + 65 < cLine) : OpR X (compareOp .NotIn) (rInT X.K true) := by
  intro pins s σ H x y v u Q I rx ry h
  obtain ⟨d, ds, hd, he, sd, se, q⟩ := h
  obtain ⟨as, r1⟩ := Dp.reads I d x v hd rx
  obtain ⟨bs, r2⟩ := Dp.reads I (.tuple ds) y u he ry
  refine SeqAt.notIn_tuple_reads r2 r1 (SeqAt.canLay_of_shaped se) (SeqAt.canLay_of_shaped sd) (room_in_shaped sd hu) ⟨.bl _, H, I, rfl, ?_⟩
  rw [Bool.true_xor] at q
  exact q
def inD (x : PyData) (ds : List PyData) : Bool := ds.any fun z => PyData.eqv z x
def gIn (neg : Bool) (x y : PyData) : Option Val := if SeqAt.shaped x = true ∧ SeqAt.shaped y = true then (match y with
  | .list ds => oB (neg ^^ inD x ds)
  | .tuple ds => oB (neg ^^ inD x ds)
  | _ => none) else none
theorem sound_in : Sound2 K (gIn false) (fun x y H Q => rInT K false x y H Q ∨ rInD K x y H Q) := by
  intro B H v u x y out Q t r1 r2 e k
  unfold gIn at e
  split at e
  · rename_i c
    have d1 := r1.toDp (nodict_of c.1)
    have d2 := r2.toDp (nodict_of c.2)
    split at e
    · rename_i ds
      cases e
      exact .inr ⟨x, ds, d1, d2, c.1, c.2, by have q := k.bl; rw [Bool.false_xor] at q; exact q⟩
    · rename_i ds
      cases e
      exact .inl ⟨x, ds, d1, d2, c.1, c.2, k.bl⟩
    · cases e
  · cases e
theorem sound_notIn : Sound2 K (gIn true) (fun x y H Q => rInT K true x y H Q ∨ rNotInD K x y H Q) := by
  intro B H v u x y out Q t r1 r2 e k
  unfold gIn at e
  split at e
  · rename_i c
    have d1 := r1.toDp (nodict_of c.1)
    have d2 := r2.toDp (nodict_of c.2)
    split at e
    · rename_i ds
      cases e
      exact .inr ⟨x, ds, d1, d2, c.1, c.2, by have q := k.bl; rw [Bool.true_xor] at q; exact q⟩
    · rename_i ds
      cases e
      exact .inl ⟨x, ds, d1, d2, c.1, c.2, k.bl⟩
    · cases e
  · cases e
theorem de_in {a b : Expr} {ca cb : CE} {pos : Pos} (hu : X.A.units + 65 < cLine) (hm : behindInMarks .In b = false) (ha : DE X a ca) (hb : DE X b cb) : DE X (.Compare a [.In] [b] pos) (cOp2 (gIn false) ca cb) := de_cmp ((op_inT hu).or (op_inD hu)) sound_in hm ha hb
theorem dt_in {a b : Expr} {ca cb : CE} {pos : Pos} (hu : X.A.units + 65 < cLine) (hm : behindInMarks .In b = false) (ha : DE X a ca) (hb : DE X b cb) : DT X (.Compare a [.In] [b] pos) (cTst (cOp2 (gIn false) ca cb)) := dt_cmp ((op_inT hu).or (op_inD hu)) sound_in hm ha hb
theorem de_notIn {a b : Expr} {ca cb : CE} {pos : Pos} (hu : X.A.units + 65 < cLine) (hm : behindInMarks .NotIn b = false) (ha : DE X a ca) (hb : DE X b cb) : DE X (.Compare a [.NotIn] [b] pos) (cOp2 (gIn true) ca cb) := de_cmp ((op_notInT hu).or (op_notInD hu)) sound_notIn hm ha hb
theorem dt_notIn {a b : Expr} {ca cb : CE} {pos : Pos} (hu : X.A.units + 65 < cLine) (hm : behindInMarks .NotIn b = false) (ha : DE X a ca) (hb : DE X b cb) : DT X (.Compare a [.NotIn] [b] pos) (cTst (cOp2 (gIn true) ca cb)) := dt_cmp ((op_notInT hu).or (op_notInD hu)) sound_notIn hm ha hb

/-! ### subscripts, slices -/
def gIx : PyData → PyData → Option Val
  | .list xs, .int i => (atI xs i).map .d
  | .tuple xs, .int i => (atI xs i).map .d
  | .str z, .int i => if z.length ≤ sizeLine then (atI z.cps.toList i).map fun c => .d (.str ⟨#[c]⟩) else none
  | _, _ => none
theorem atI_good {i : Int} (g : GoodAll K B H vs ds) (e : atI ds i = some x) : ∃ v, atI vs i = some v ∧ Good K B H v x := by
  unfold atI at e ⊢
  rw [g.len]
  cases q : ixN ds.length i with
  | none => rw [q] at e; cases e
  | some j =>
    rw [q] at e
    exact g.get e
theorem sound_ix : Sound2 K gIx (rIx K) := by
  intro B H v u x y out Q t r1 r2 e k
  unfold gIx at e
  split at e
  · rw [Option.map_eq_some_iff] at e
    obtain ⟨z, e, rfl⟩ := e
    obtain ⟨a, vs, rfl, s1, g1⟩ := r1.list
    obtain ⟨w, e1, g⟩ := atI_good g1 e
    exact .inl ⟨a, vs, _, w, rfl, r2.int, s1, e1, k.good g⟩
  · rw [Option.map_eq_some_iff] at e
    obtain ⟨z, e, rfl⟩ := e
    obtain ⟨a, vs, rfl, s1, g1⟩ := r1.tup
    obtain ⟨w, e1, g⟩ := atI_good g1 e
    exact .inr (.inl ⟨a, vs, _, w, rfl, r2.int, s1, e1, k.good g⟩)
  · split at e
    · rename_i hz
      rw [Option.map_eq_some_iff] at e
      obtain ⟨c, e, rfl⟩ := e
      exact .inr (.inr ⟨_, _, c, r1.str, r2.int, hz, e, k.str⟩)
    · cases e
  · cases e
theorem de_at {a b : Expr} {ca cb : CE} {pos : Pos} (hs : PlainIx b) (ha : DE X a ca) (hb : DE X b cb) : DE X (.Subscript a b pos) (cOp2 gIx ca cb) := de_ix ix_seq sound_ix ha hb hs
end
end DL

/-! DL15: slices, built-in functions. -/
namespace DL
open PySem PySem.Spec PyProof.Rows L2
section
variable {K : PySem.W.Frag} {B B' B'' B1 B2 W : Addr → Prop} {σ σ' : L2.St} {H H0 H' H'' H1 H2 : Hp} {ρ ρ' ρ1 ρ2 : Env} {r : Val} {v u : V} {vs us : List V} {X : Cx} {a b : Addr} {ds es xs ys : List PyData} {x y : PyData} {Q : VK}

/-! ### slices -/
abbrev CO := Env → Option (Option Int × Env)
def tOp (K : PySem.W.Frag) (c : CO) : TO := fun σ H Q => ∃ B ρ o ρ', Rel K B σ H ρ ∧ c ρ = some (o, ρ') ∧ ∀ B' H', Ext K B σ H ρ B' H' ρ' → Q o H'
structure DO (X : Cx) (e : Option Expr) (c : CO) : Prop where
  po : PO X e (tOp X.K c)
theorem PO.weak {X : Cx} {e : Option Expr} {t t' : TO} (h : PO X e t) (k : ∀ σ H Q, t' σ H Q → t σ H Q) : PO X e t' := ⟨fun pins s σ H Q I w => h.run pins s σ H Q I (k σ H Q w)⟩
def oNo : CO := fun ρ => some (none, ρ)
def oSo (c : CE) : CO := fun ρ => match c ρ with
  | some (.d (.int i), ρ') => some (some i, ρ')
  | _ => none
theorem do_none : DO X none oNo := by
  refine ⟨PO.weak po_none fun σ H Q h => ?_⟩
  obtain ⟨B, ρ, o, ρ', R, e, k⟩ := h
  cases e
  exact k B H (.refl R)
theorem do_some {e : Expr} {c : CE} (h : DE X e c) : DO X (some e) (oSo c) := by
  refine ⟨PO.weak (po_some h.pe) fun σ H Q h => ?_⟩
  obtain ⟨B, ρ, o, ρ', R, e, k⟩ := h
  unfold oSo at e
  split at e
  · rename_i i ρ1 e1
    cases e
    refine ⟨B, ρ, _, ρ', R, e1, fun v B1 H1 x1 v1 => ?_⟩
    have v1' : Good X.K B1 H1 v (.int i) := v1
    cases v1'
    exact ⟨i, rfl, k B1 H1 x1⟩
  · cases e
def cutA {α : Type} (xs : List α) (lo hi : Option Int) : List α := (xs.drop (HT.sIx xs.length 0 lo)).take (HT.sIx xs.length xs.length hi - HT.sIx xs.length 0 lo)
theorem cut_good {lo hi : Option Int} (g : GoodAll K B H vs ds) : GoodAll K B H (cutV vs lo hi) (cutA ds lo hi) := by
  unfold cutV cutA
  rw [g.len]
  exact (g.drop _).take _
def gCut (lo hi : Option Int) : PyData → Option Val
  | .list xs => some (.n (.list (cutA xs lo hi)))
  | .tuple xs => some (.d (.tuple (cutA xs lo hi)))
  | .str z => if z.length ≤ sizeLine then some (.d (.str (cutS z lo hi))) else none
  | _ => none
def cSl (ca : CE) (cl ch : CO) : CE := fun ρ => do
  let (ra, ρ1) ← ca ρ
  let (lo, ρ2) ← cl ρ1
  let (hi, ρ3) ← ch ρ2
  let x ← dat ρ3 ra
  let out ← gCut lo hi x
  pure (out, ρ3)
theorem de_slice {e : Expr} {lo hi : Option Expr} {ca : CE} {cl ch : CO} {pos p2 : Pos} (he : DE X e ca) (hl : DO X lo cl) (hu : DO X hi ch) : DE X (.Subscript e (.Slice lo hi none p2) pos) (cSl ca cl ch) := by
  refine ⟨PE.weak (pe_slice (sl_list.or (sl_tupA.or sl_str)) he.pe hl.po hu.po) fun σ H Q h => ?_⟩
  obtain ⟨B, ρ, z, ρ', R, e, k⟩ := h
  unfold cSl at e
  simp only [Option.bind_eq_bind, Option.bind_eq_some_iff, Option.pure_def, Option.some.injEq] at e
  obtain ⟨⟨ra, ρ1⟩, h1, ⟨lo, ρ2⟩, h2, ⟨hi, ρ3⟩, h3, x, h4, out, h5, h6⟩ := e
  cases h6
  refine ⟨B, ρ, ra, ρ1, R, h1, fun v B1 H1 x1 v1 => ⟨B1, ρ1, lo, ρ2, x1.rel, h2, fun B2 H2 x2 => ⟨B2, ρ2, hi, ρ3, x2.rel, h3, fun B3 H3 x3 => ?_⟩⟩⟩
  have x23 := x2.trans x1.rel x3
  have rd := (v1.keep x1.rel x23).read x3.rel h4
  have o : Outc X.K B3 H3 z Q := Outc.of R (x1.trans R x23) k
  unfold gCut at h5
  split at h5
  · rename_i xs
    cases h5
    obtain ⟨a, vs, rfl, s, g⟩ := rd.list
    exact .inl ⟨a, vs, rfl, s, o.newL (cut_good g)⟩
  · rename_i xs
    cases h5
    obtain ⟨a, vs, rfl, s, g⟩ := rd.tup
    refine .inr (.inl ⟨a, vs, rfl, s, fun hw => ?_, fun _ => o.newT x3.rel.tr0 (cut_good g)⟩)
    have e : cutA xs lo hi = xs := by
      unfold cutA
      rw [← g.len, hw.1, hw.2, List.drop_zero, Nat.sub_zero, g.len, List.take_length]
    rw [e] at o
    exact o.good rd.goodT
  · split at h5
    · rename_i hz
      cases h5
      exact .inr (.inr ⟨_, rd.str, hz, o.str⟩)
    · cases h5
  · cases h5

/-! ### functions -/
abbrev GN := List PyData → Option Val
variable {p pos : Pos} {e e2 : Expr} {es' : List Expr} {cs : CA} {rest : List Expr}
theorem Reads'.one (h : Reads' K B H vs [x]) : ∃ v, vs = [v] ∧ Read K B H v x := by
  cases h with
  | cons a t =>
    cases t
    exact ⟨_, rfl, a⟩
theorem Reads'.two (h : Reads' K B H vs [x, y]) : ∃ v u, vs = [v, u] ∧ Read K B H v x ∧ Read K B H u y := by
  cases h with
  | cons a t =>
    cases t with
    | cons b t =>
      cases t
      exact ⟨_, _, rfl, a, b⟩
/-- what a call of a built-in function wants -/
structure Blt (X : Cx) (x : Str) (u : Value) : Prop where
  g : Gl X x
  m : X.mg x = none
  v : bootBuiltins x = some u
def gLen : GN
  | [.list xs] => oI xs.length
  | [.tuple xs] => oI xs.length
  | [.str z] => if z.length ≤ sizeLine then oI z.length else none
  | _ => none
theorem de_len (b : Blt X "len" (.builtin "len")) (ha : DAs X (e :: es') cs) (he : starEach (e :: es') X.env = (false, eval e X.env) :: starEach es' X.env) (hpl : (backTo pos (starEach es' X.env)).any (·.1) = false) : DE X (.Call (.Name "len" p) (e :: es') [] pos) (cFn gLen cs) := by
  refine de_callB (call_len_seq.or call_len_str) ?_ b.g b.m b.v ha (by decide) (by decide) he hpl
  intro B H vs xs out Q t r e k
  unfold gLen at e
  split at e
  · cases e
    obtain ⟨v, rfl, rd⟩ := r.one
    obtain ⟨a, us, rfl, s, g⟩ := rd.list
    exact .inl ⟨a, us, rfl, .inl s, by rw [g.len]; exact k.int⟩
  · cases e
    obtain ⟨v, rfl, rd⟩ := r.one
    obtain ⟨a, us, rfl, s, g⟩ := rd.tup
    exact .inl ⟨a, us, rfl, .inr s, by rw [g.len]; exact k.int⟩
  · split at e
    · rename_i hz
      cases e
      obtain ⟨v, rfl, rd⟩ := r.one
      rw [rd.str]
      exact .inr ⟨_, rfl, hz, k.int⟩
    · cases e
  · cases e
def gAbs : GN
  | [.int i] => oI (if i < 0 then -i else i)
  | _ => none
theorem de_abs (b : Blt X "abs" (.builtin "abs")) (ha : DAs X (e :: es') cs) (he : starEach (e :: es') X.env = (false, eval e X.env) :: starEach es' X.env) (hpl : (backTo pos (starEach es' X.env)).any (·.1) = false) : DE X (.Call (.Name "abs" p) (e :: es') [] pos) (cFn gAbs cs) := by
  refine de_callB call_abs ?_ b.g b.m b.v ha (by decide) (by decide) he hpl
  intro B H vs xs out Q t r e k
  unfold gAbs at e
  split at e
  · cases e
    obtain ⟨v, rfl, rd⟩ := r.one
    rw [rd.int]
    exact ⟨_, rfl, k.int⟩
  · cases e
def gMax2 : GN
  | [.int i, .int j] => oI (if j > i then j else i)
  | _ => none
def gMin2 : GN
  | [.int i, .int j] => oI (if j < i then j else i)
  | _ => none
theorem de_max2 (hc : X.calm = true) (b : Blt X "max" (.builtin "max")) (ha : DAs X (e :: es') cs) (he : starEach (e :: es') X.env = (false, eval e X.env) :: starEach es' X.env) (hpl : (backTo pos (starEach es' X.env)).any (·.1) = false) : DE X (.Call (.Name "max" p) (e :: es') [] pos) (cFn gMax2 cs) := by
  refine de_callB (call_max2 hc) ?_ b.g b.m b.v ha (by decide) (by decide) he hpl
  intro B H vs xs out Q t r e k
  unfold gMax2 at e
  split at e
  · cases e
    obtain ⟨v, u, rfl, r1, r2⟩ := r.two
    rw [r1.int, r2.int]
    exact ⟨_, _, rfl, k.int⟩
  · cases e
theorem de_min2 (hc : X.calm = true) (b : Blt X "min" (.builtin "min")) (ha : DAs X (e :: es') cs) (he : starEach (e :: es') X.env = (false, eval e X.env) :: starEach es' X.env) (hpl : (backTo pos (starEach es' X.env)).any (·.1) = false) : DE X (.Call (.Name "min" p) (e :: es') [] pos) (cFn gMin2 cs) := by
  refine de_callB (call_min2 hc) ?_ b.g b.m b.v ha (by decide) (by decide) he hpl
  intro B H vs xs out Q t r e k
  unfold gMin2 at e
  split at e
  · cases e
    obtain ⟨v, u, rfl, r1, r2⟩ := r.two
    rw [r1.int, r2.int]
    exact ⟨_, _, rfl, k.int⟩
  · cases e
def gInt : GN
  | [.int i] => oI i
  | [.bool b] => oI (if b then 1 else 0)
  | _ => none
theorem de_intF (b : Blt X "int" (.type "int")) (ha : DAs X (e :: es') cs) (he : starEach (e :: es') X.env = (false, eval e X.env) :: starEach es' X.env) (hpl : (backTo pos (starEach es' X.env)).any (·.1) = false) : DE X (.Call (.Name "int" p) (e :: es') [] pos) (cFn gInt cs) := by
  refine de_callTy call_int1 ?_ b.g b.m b.v ha (by decide) (by decide) he hpl
  intro B H vs xs out Q t r e k
  unfold gInt at e
  split at e
  · cases e
    obtain ⟨v, rfl, rd⟩ := r.one
    rw [rd.int]
    exact .inl ⟨_, rfl, k.int⟩
  · cases e
    obtain ⟨v, rfl, rd⟩ := r.one
    rw [rd.bool]
    exact .inr ⟨_, rfl, k.int⟩
  · cases e
def gDvm : GN
  | [.int i, .int j] => if CDivP i j then some (.d (.tuple [.int (i / j), .int (i % j)])) else none
  | _ => none
theorem de_divmod (b : Blt X "divmod" (.builtin "divmod")) (ha : DAs X (e :: es') cs) (he : starEach (e :: es') X.env = (false, eval e X.env) :: starEach es' X.env) (hpl : (backTo pos (starEach es' X.env)).any (·.1) = false) : DE X (.Call (.Name "divmod" p) (e :: es') [] pos) (cFn gDvm cs) := by
  refine de_callB call_divmodW ?_ b.g b.m b.v ha (by decide) (by decide) he hpl
  intro B H vs xs out Q t r e k
  unfold gDvm at e
  split at e
  · split at e
    · rename_i c
      cases e
      obtain ⟨v, u, rfl, r1, r2⟩ := r.two
      rw [r1.int, r2.int]
      exact ⟨_, _, rfl, c, k.newT t (.cons (.int _) (.cons (.int _) .nil))⟩
    · cases e
  · cases e
def boolsD : List PyData → Option (List Bool)
  | [] => some []
  | .bool b :: xs => (boolsD xs).map (b :: ·)
  | _ => none
theorem bools_good : ∀ {ds : List PyData} {vs : List V} {bs : List Bool}, GoodAll K B H vs ds → boolsD ds = some bs → vs = bs.map V.bl
  | [], _, _, .nil, e => by
    cases e
    rfl
  | d :: ds, _, _, .cons g t, e => by
    unfold boolsD at e
    split at e
    · rename_i h
      cases h
    · rename_i b xs h
      cases h
      rw [Option.map_eq_some_iff] at e
      obtain ⟨bs, e, rfl⟩ := e
      cases g
      rw [bools_good t e]
      rfl
    · cases e
def gAll : GN
  | [.list xs] => match boolsD xs with
    | some bs => oB (bs.all id)
    | none => none
  | _ => none
def gAny : GN
  | [.list xs] => match boolsD xs with
    | some bs => oB (bs.any id)
    | none => none
  | _ => none
theorem de_all (hc : X.calm = true) (b : Blt X "all" (.builtin "all")) (ha : DAs X (e :: es') cs) (he : starEach (e :: es') X.env = (false, eval e X.env) :: starEach es' X.env) (hpl : (backTo pos (starEach es' X.env)).any (·.1) = false) : DE X (.Call (.Name "all" p) (e :: es') [] pos) (cFn gAll cs) := by
  refine de_callB (cr_all hc) ?_ b.g b.m b.v ha (by decide) (by decide) he hpl
  intro B H vs xs out Q t r e k
  unfold gAll at e
  split at e
  · split at e
    · rename_i bs hb
      cases e
      obtain ⟨v, rfl, rd⟩ := r.one
      obtain ⟨a, us, rfl, s, g⟩ := rd.list
      rw [bools_good g hb] at s
      exact ⟨a, bs, rfl, s, k.bl⟩
    · cases e
  · cases e
theorem de_any (hc : X.calm = true) (b : Blt X "any" (.builtin "any")) (ha : DAs X (e :: es') cs) (he : starEach (e :: es') X.env = (false, eval e X.env) :: starEach es' X.env) (hpl : (backTo pos (starEach es' X.env)).any (·.1) = false) : DE X (.Call (.Name "any" p) (e :: es') [] pos) (cFn gAny cs) := by
  refine de_callB (cr_any hc) ?_ b.g b.m b.v ha (by decide) (by decide) he hpl
  intro B H vs xs out Q t r e k
  unfold gAny at e
  split at e
  · split at e
    · rename_i bs hb
      cases e
      obtain ⟨v, rfl, rd⟩ := r.one
      obtain ⟨a, us, rfl, s, g⟩ := rd.list
      rw [bools_good g hb] at s
      exact ⟨a, bs, rfl, s, k.bl⟩
    · cases e
  · cases e
def gTuple : GN
  | [.list xs] => some (.d (.tuple xs))
  | [.tuple xs] => some (.d (.tuple xs))
  | _ => none
theorem de_tuple (b : Blt X "tuple" (.type "tuple")) (ha : DAs X (e :: es') cs) (he : starEach (e :: es') X.env = (false, eval e X.env) :: starEach es' X.env) (hpl : (backTo pos (starEach es' X.env)).any (·.1) = false) : DE X (.Call (.Name "tuple" p) (e :: es') [] pos) (cFn gTuple cs) := by
  refine de_callTy call_tuple_of ?_ b.g b.m b.v ha (by decide) (by decide) he hpl
  intro B H vs xs out Q t r e k
  unfold gTuple at e
  split at e
  · cases e
    obtain ⟨v, rfl, rd⟩ := r.one
    obtain ⟨a, us, rfl, s, g⟩ := rd.list
    exact ⟨a, us, rfl, .inl ⟨s, k.newT t g⟩⟩
  · cases e
    obtain ⟨v, rfl, rd⟩ := r.one
    obtain ⟨a, us, rfl, s, g⟩ := rd.tup
    exact ⟨a, us, rfl, .inr ⟨s, k.good rd.goodT⟩⟩
  · cases e
def gList : GN
  | [.list xs] => some (.n (.list xs))
  | [.tuple xs] => some (.n (.list xs))
  | _ => none
theorem de_list (b : Blt X "list" (.type "list")) (ha : DAs X (e :: es') cs) (he : starEach (e :: es') X.env = (false, eval e X.env) :: starEach es' X.env) (hpl : (backTo pos (starEach es' X.env)).any (·.1) = false) : DE X (.Call (.Name "list" p) (e :: es') [] pos) (cFn gList cs) := by
  refine de_callTy call_list_of ?_ b.g b.m b.v ha (by decide) (by decide) he hpl
  intro B H vs xs out Q t r e k
  unfold gList at e
  split at e
  · cases e
    obtain ⟨v, rfl, rd⟩ := r.one
    obtain ⟨a, us, rfl, s, g⟩ := rd.list
    exact ⟨a, us, rfl, .inl s, k.newL g⟩
  · cases e
    obtain ⟨v, rfl, rd⟩ := r.one
    obtain ⟨a, us, rfl, s, g⟩ := rd.tup
    exact ⟨a, us, rfl, .inr s, k.newL g⟩
  · cases e

/-! ### sorted -/
open PySem.W (alike dataLe AllAlike Sortable' EachIs)
def rSortD (K : PySem.W.Frag) : List V → Hp → VK → Prop := fun vs H Q => ∃ (a : Addr) (bs : List (V × PyData)), vs = [.ref a] ∧ SqL K H a (bs.map (·.1)) ∧ (∀ b ∈ bs, Dp K H b.1 b.2) ∧ AllAlike (bs.map (·.2)) ∧ Sortable' (bs.map (·.2)) ∧ (∀ b ∈ bs, b.2.depth ≤ 60) ∧
  ∀ p, H p = none → Q (.ref p) (upd H p (.lst ((bs.mergeSort (dataLe false (·.2))).map (·.1))))
theorem each_of_vals : ∀ {bs : List (V × PyData)} {us : List Value}, Vals (bs.map (·.1)) us → EachIs (fun (v : Value) (b : V × PyData) => RelV b.1 v) us bs
  | [], _, r => by
    cases r
    exact .nil
  | b :: bs, _, r => by
    cases r with
    | cons h t => exact .cons h (each_of_vals t)
theorem vals_of_each : ∀ {bs : List (V × PyData)} {us : List Value}, EachIs (fun (v : Value) (b : V × PyData) => RelV b.1 v) us bs → Vals (bs.map (·.1)) us
  | _, _, .nil => .nil
  | _, _, .cons h t => .cons h (vals_of_each t)
theorem each_reads {pins : List (Addr × Obj)} {s : Shared} (I : Inv X pins σ H s) : ∀ {bs : List (V × PyData)} {us : List Value}, (∀ b ∈ bs, Dp X.K H b.1 b.2) → Vals (bs.map (·.1)) us → EachIs (fun (v : Value) (b : V × PyData) => ∃ as, Reads s.heap v b.2 as) us bs
  | [], _, _, r => by
    cases r
    exact .nil
  | b :: bs, _, h, r => by
    cases r with
    | cons h1 t => exact .cons (Dp.reads I b.2 b.1 _ (h b List.mem_cons_self) h1) (each_reads I (fun c m => h c (List.mem_cons_of_mem _ m)) t)
theorem cr_sortD (hu : X.A.units + 64 < cLine) : CallR X (.builtin "sorted") (rSortD X.K) := by
  intro pins s σ H vs us Q I r h
  obtain ⟨a, bs, rfl, hs, hd, hal, hk, hdp, q⟩ := h
  obtain ⟨its, rv, hl, hz⟩ := I.list hs
  rw [Vals.ref1 r]
  rw [List.length_map] at hz
  refine PySem.W.sorted_data' (enc := (·.2)) hl.isList (each_of_vals rv) (each_reads I hd rv) hal hk hz (fun b m => by have := hdp b m; omega) fun out ho eo => ?_
  obtain ⟨ep, he'⟩ := PyProof.Rows.sortedAll_at s.heap its out.toArray
  have hlen : ((bs.mergeSort (dataLe false (·.2))).map (·.1)).length ≤ sizeLine := by
    rw [List.length_map, List.length_mergeSort]
    exact hz
  exact ⟨.ref _, upd H (s.heap.objs.size + 1) (.lst ((bs.mergeSort (dataLe false (·.2))).map (·.1))), I.laid (t' := s.toks) (fun _ _ => PyProof.Rows.sortedAll_old) (Nat.le_succ _) ⟨hlen, out, ep, vals_of_each eo, he'⟩, rfl, q _ (I.hok.fresh (Nat.le_succ _))⟩
def isTup : PyData → Bool
  | .tuple _ => true
  | _ => false
def isPl : PyData → Bool
  | .tuple _ => false
  | .none => false
  | _ => true
def sortOk (ds : List PyData) : Bool := (ds.all fun d => ds.all fun e => alike d e) && (ds.all isTup || ds.all isPl) && (ds.all fun d => decide (d.depth ≤ 60)) && !PyData.hasDictAll ds
def sortD (ds : List PyData) : List PyData := ds.mergeSort (dataLe false id)
theorem good_zip : ∀ {vs : List V} {ds : List PyData}, GoodAll K B H vs ds → (vs.zip ds).map (·.1) = vs ∧ (vs.zip ds).map (·.2) = ds ∧ ∀ b ∈ vs.zip ds, Good K B H b.1 b.2
  | _, _, .nil => ⟨rfl, rfl, fun b h => by simp at h⟩
  | _, _, .cons g t => by
    obtain ⟨h1, h2, h3⟩ := good_zip t
    refine ⟨by rw [List.zip_cons_cons, List.map_cons, h1], by rw [List.zip_cons_cons, List.map_cons, h2], fun b m => ?_⟩
    rcases List.mem_cons.mp m with rfl | m
    · exact g
    · exact h3 b m
theorem good_unzip : ∀ {bs : List (V × PyData)}, (∀ b ∈ bs, Good K B H b.1 b.2) → GoodAll K B H (bs.map (·.1)) (bs.map (·.2))
  | [], _ => .nil
  | b :: bs, h => .cons (h b List.mem_cons_self) (good_unzip fun c m => h c (List.mem_cons_of_mem _ m))
theorem nodict_mem : ∀ {ds : List PyData} {d : PyData}, PyData.hasDictAll ds = false → d ∈ ds → d.hasDict = false
  | d :: ds, e, h, m => by
    unfold PyData.hasDictAll at h
    rw [Bool.or_eq_false_iff] at h
    rcases List.mem_cons.mp m with rfl | m
    · exact h.1
    · exact nodict_mem h.2 m
  | [], _, _, m => nomatch m
theorem sortOk_spec (h : sortOk ds = true) : AllAlike ds ∧ Sortable' ds ∧ (∀ d ∈ ds, d.depth ≤ 60) ∧ ∀ d ∈ ds, d.hasDict = false := by
  unfold sortOk at h
  simp only [Bool.and_eq_true, Bool.or_eq_true, List.all_eq_true, decide_eq_true_eq] at h
  obtain ⟨⟨⟨h1, h2⟩, h3⟩, h4⟩ := h
  refine ⟨fun d m d' m' => h1 d m d' m', ?_, h3, fun d m => nodict_mem (by simpa using h4) m⟩
  rcases h2 with h2 | h2
  · refine .inl fun d m => ?_
    have := h2 d m
    cases d with
    | tuple xs => exact ⟨xs, rfl⟩
    | _ => cases this
  · refine .inr fun d m => ⟨fun e => ?_, fun xs e => ?_⟩
    · have := h2 d m
      rw [e] at this
      cases this
    · have := h2 d m
      rw [e] at this
      cases this
def gSorted : GN
  | [.list xs] => if sortOk xs = true then some (.n (.list (sortD xs))) else none
  | _ => none
theorem de_sorted (hu : X.A.units + 64 < cLine) (b : Blt X "sorted" (.builtin "sorted")) (ha : DAs X (e :: es') cs) (he : starEach (e :: es') X.env = (false, eval e X.env) :: starEach es' X.env) (hpl : (backTo pos (starEach es' X.env)).any (·.1) = false) : DE X (.Call (.Name "sorted" p) (e :: es') [] pos) (cFn gSorted cs) := by
  refine de_callB (cr_sortD hu) ?_ b.g b.m b.v ha (by decide) (by decide) he hpl
  intro B H vs xs out Q t r e k
  unfold gSorted at e
  split at e
  · rename_i ds
    split at e
    · rename_i c
      cases e
      obtain ⟨v, rfl, rd⟩ := r.one
      obtain ⟨a, us, rfl, s, g⟩ := rd.list
      obtain ⟨h1, h2, h3⟩ := good_zip g
      obtain ⟨c1, c2, c3, c4⟩ := sortOk_spec c
      refine ⟨a, us.zip ds, rfl, by rw [h1]; exact s, fun b m => (h3 b m).toDp (c4 _ ?_), by rw [h2]; exact c1, by rw [h2]; exact c2, fun b m => c3 _ ?_, k.newL ?_⟩
      · rw [← h2]
        exact List.mem_map_of_mem (f := (·.2)) m
      · rw [← h2]
        exact List.mem_map_of_mem (f := (·.2)) m
      · have e1 : sortD ds = ((us.zip ds).mergeSort (dataLe false (·.2))).map (·.2) := by
          unfold sortD
          conv => lhs; rw [← h2]
          exact (List.map_mergeSort (r := dataLe false (fun b : V × PyData => b.2)) (s := dataLe false id) (f := fun b : V × PyData => b.2) fun a _ b _ => rfl).symm
        rw [e1]
        exact good_unzip fun b m => h3 b (List.mem_mergeSort.mp m)
    · cases e
  · cases e
end
end DL

/-! DL16: isinstance, repr, is None, sorted(set(..)). -/
namespace DL
open PySem PySem.Spec PyProof.Rows L2
section
variable {K : PySem.W.Frag} {B B' B'' B1 B2 W : Addr → Prop} {σ σ' : L2.St} {H H0 H' H'' H1 H2 : Hp} {ρ ρ' ρ1 ρ2 : Env} {r : Val} {v u : V} {vs us : List V} {X : Cx} {a b : Addr} {ds es xs ys : List PyData} {x y : PyData} {Q : VK}
variable {p pos : Pos} {e e2 : Expr} {es' : List Expr} {cs : CA} {rest : List Expr}

/-! ### isinstance -/
def tyName : PyData → String
  | .none => "NoneType"
  | .bool _ => "bool"
  | .int _ => "int"
  | .str _ => "str"
  | .list _ => "list"
  | .tuple _ => "tuple"
  | .dict _ => "dict"
def isT (T : String) (x : PyData) : Bool := tyName x == T || (T == "int" && tyName x == "bool")
theorem ty_rd {u : HO} {T : String} (r : Rd H a u) (h1 : H a = some u → TyX K H (.ref a) (.type T)) (h2 : ∀ o, H a = some (.frz o u) → TyX K H (.ref a) (.type T)) : TyX K H (.ref a) (.type T) := by
  rcases r with r | ⟨o, r⟩
  · exact h1 r
  · exact h2 o r
theorem ty_read (h : Read K B H v x) : TyX K H v (.type (tyName x)) := by
  rcases h with g | ⟨a, us, ds, rfl, rfl, s, g⟩
  · cases g with
    | non => exact .base .non
    | bl b => exact .base (.bl b)
    | int i => exact .base (.int i)
    | str z => exact .base (.str z)
    | lst nb r ga => exact ty_rd r (fun e => .base (.lst e)) fun o e => .base (.frz e)
    | lstK k ga =>
      obtain ⟨o, its, n, h1, h2, _⟩ := k
      exact .kList h1 h2
    | tup nb r ga => exact ty_rd r (fun e => .base (.tup e)) fun o e => .fTuple e
    | tupK k ga =>
      obtain ⟨o, its, n, h1, h2, _⟩ := k
      exact .kTuple h1 h2
    | dic0 nb r => exact .base (.dK r)
  · rcases s with r | ⟨o, its, n, h1, h2, _⟩
    · exact ty_rd r (fun e => .base (.lst e)) fun o e => .base (.frz e)
    · exact .kList h1 h2
def kitAll (T : String) : Bool := ["NoneType", "bool", "int", "str", "list", "tuple", "dict"].all fun n => kitB n T == some (n == T || (T == "int" && n == "bool"))
theorem kit_isT {T : String} (h : kitAll T = true) (x : PyData) : kitB (tyName x) T = some (isT T x) := by
  unfold kitAll at h
  have := List.all_eq_true.mp h (tyName x) (by cases x <;> simp [tyName])
  simpa [isT] using this
theorem kit_int : kitAll "int" = true := by decide +kernel
theorem kit_bool : kitAll "bool" = true := by decide +kernel
theorem kit_str : kitAll "str" = true := by decide +kernel
theorem kit_list : kitAll "list" = true := by decide +kernel
theorem kit_tuple : kitAll "tuple" = true := by decide +kernel
theorem kit_dict : kitAll "dict" = true := by decide +kernel
def gIsi (T : String) (x : PyData) : Option Val := oB (isT T x)
theorem de_isi {T : String} {y : Str} {p2 : Pos} {ca : CE} (hk : kitAll T = true) (b : Blt X "isinstance" (.builtin "isinstance")) (bT : Blt X y (.type T)) (hn : y ≠ "__name__") (hd : (y == ("__debug__" : Str)) = false) (ha : DE X e ca)
    (he : starEach [e, .Name y p2] X.env = (false, eval e X.env) :: starEach [.Name y p2] X.env) (hpl : (backTo pos (starEach [.Name y p2] X.env)).any (·.1) = false) :
    DE X (.Call (.Name "isinstance" p) [e, .Name y p2] [] pos) (cOp1 (gIsi T) ca) := by
  have hT : PE X (.Name y p2) (tC (.ty T)) := pe_bltn bT.g bT.m bT.v (show RelV (.ty T) (.type T) from rfl) hn hd
  refine ⟨PE.weak (pe_callB call_isi b.g b.m b.v (pa_cons ha.pe (pa_cons hT pa_nil rfl) he) (by decide) (by decide) he hpl) fun σ H Q h => ?_⟩
  obtain ⟨B, ρ, z, ρ', R, e, k⟩ := h
  obtain ⟨ra, ρ1, x, h1, h3, h5, h6⟩ := cOp1_some e
  have h6' : ρ' = ρ1 := h6
  subst h6'
  refine ⟨B, ρ, ra, ρ', R, h1, fun v B1 H1 x1 v1 => ?_⟩
  have rd := v1.read x1.rel h3
  have o : Outc X.K B1 H1 z Q := Outc.of R x1 k
  have h5' : some (Val.d (.bool (isT T x))) = some z := h5
  cases h5'
  exact ⟨v, .ty T, .type (tyName x), .type T, isT T x, rfl, .ty T, ty_read rd, kit_ty (kit_isT hk x), o.bl⟩

/-! ### is None -/
def isNo : PyData → Bool
  | .none => true
  | _ => false
def gIsN (neg : Bool) (x y : PyData) : Option Val := match y with
  | .none => oB (neg ^^ isNo x)
  | _ => none
theorem non_iff (h : Read K B H v x) : decide (v = V.non) = isNo x := by
  unfold isNo
  rcases h with g | ⟨a, us, ds, rfl, rfl, s, g⟩
  · cases g <;> simp
  · simp
theorem de_isN {a b : Expr} {ca cb : CE} {pos : Pos} (ha : DE X a ca) (hb : DE X b cb) : DE X (.Compare a [.Is] [b] pos) (cOp2 (gIsN false) ca cb) := by
  refine de_cmp op_isN ?_ (nomark _) ha hb
  intro B H v u x y out Q t r1 r2 e k
  unfold gIsN at e
  split at e
  · cases e
    refine ⟨r2.non, ?_⟩
    rw [non_iff r1]
    have q := k.bl
    rw [Bool.false_xor] at q
    exact q
  · cases e
theorem de_notN {a b : Expr} {ca cb : CE} {pos : Pos} (ha : DE X a ca) (hb : DE X b cb) : DE X (.Compare a [.IsNot] [b] pos) (cOp2 (gIsN true) ca cb) := by
  refine de_cmp op_notN ?_ (nomark _) ha hb
  intro B H v u x y out Q t r1 r2 e k
  unfold gIsN at e
  split at e
  · cases e
    refine ⟨r2.non, ?_⟩
    rw [non_iff r1]
    have q := k.bl
    rw [Bool.true_xor] at q
    exact q
  · cases e

/-! ### repr -/
def gRepr : GN
  | [x] => if x.showable = true ∧ x.hasDict = false ∧ x.depth ≤ 60 ∧ x.shown.length ≤ sizeLine ∧ (isT "list" x || isT "tuple" x) = true then some (.d (.str x.shown)) else none
  | _ => none
def rReprD (K : PySem.W.Frag) : List V → Hp → VK → Prop := fun vs H Q => ∃ (a : Addr) (d : PyData), vs = [.ref a] ∧ Dp K H (.ref a) d ∧ d.showable = true ∧ d.hasDict = false ∧ d.depth ≤ 60 ∧ d.shown.length ≤ sizeLine ∧ Q (.str d.shown) H
theorem call_reprD (hg : X.A.guards = some []) (hu : X.A.units + 64 < cLine) : CallR X (.builtin "repr") (rReprD X.K) := by
  intro pins s σ H vs us Q I r h
  obtain ⟨a, d, rfl, hd, h1, h2, h3, h4, q⟩ := h
  rw [Vals.ref1 r]
  obtain ⟨as, rd⟩ := Dp.reads I d (.ref a) (.ref a) hd rfl
  refine repr_of_reads' rd h1 (fun e => by rw [h2] at e; cases e) hg (by omega) (fun _ _ e => e) (fun h' u tk k => ?_) h4
  exact ⟨.str _, H, I.kept k, ⟨_, rfl⟩, q⟩
theorem de_repr (hg : X.A.guards = some []) (hu : X.A.units + 64 < cLine) (b : Blt X "repr" (.builtin "repr")) (ha : DAs X (e :: es') cs) (he : starEach (e :: es') X.env = (false, eval e X.env) :: starEach es' X.env) (hpl : (backTo pos (starEach es' X.env)).any (·.1) = false) : DE X (.Call (.Name "repr" p) (e :: es') [] pos) (cFn gRepr cs) := by
  refine de_callB (call_reprD hg hu) ?_ b.g b.m b.v ha (by decide) (by decide) he hpl
  intro B H vs xs out Q t r e k
  unfold gRepr at e
  split at e
  · rename_i x
    split at e
    · rename_i c
      cases e
      obtain ⟨v, rfl, rd⟩ := r.one
      obtain ⟨c1, c2, c3, c4, c5⟩ := c
      have hd := rd.toDp c2
      have : ∃ a, v = .ref a := by
        cases x with
        | list ds =>
          obtain ⟨a, _, e, _⟩ := rd.list
          exact ⟨a, e⟩
        | tuple ds =>
          obtain ⟨a, _, e, _⟩ := rd.tup
          exact ⟨a, e⟩
        | _ => simp [isT, tyName] at c5
      obtain ⟨a, rfl⟩ := this
      exact ⟨a, x, rfl, hd, c1, c2, c3, c4, k.str⟩
    · cases e
  · cases e

/-! ### sorted(set(..)), a tuple of ints -/
def intsD : List PyData → Option (List Int)
  | [] => some []
  | .int b :: xs => (intsD xs).map (b :: ·)
  | _ => none
theorem ints_good : ∀ {ds : List PyData} {vs : List V} {bs : List Int}, GoodAll K B H vs ds → intsD ds = some bs → vs = bs.map V.int
  | [], _, _, .nil, e => by
    cases e
    rfl
  | d :: ds, _, _, .cons g t, e => by
    unfold intsD at e
    split at e
    · rename_i h
      cases h
    · rename_i b xs h
      cases h
      rw [Option.map_eq_some_iff] at e
      obtain ⟨bs, e, rfl⟩ := e
      cases g
      rw [ints_good t e]
      rfl
    · cases e
theorem good_ints {B : Addr → Prop} {H : Hp} : ∀ ns : List Int, GoodAll K B H (ns.map V.int) (ns.map PyData.int)
  | [] => .nil
  | n :: ns => .cons (.int n) (good_ints ns)
def insI (x : Int) : List Int → List Int
  | [] => [x]
  | y :: ys => if x < y then x :: y :: ys else if x = y then y :: ys else y :: insI x ys
def sortI : List Int → List Int
  | [] => []
  | x :: xs => insI x (sortI xs)
theorem insI_mem {x k : Int} : ∀ {ys : List Int}, k ∈ insI x ys ↔ k = x ∨ k ∈ ys
  | [] => by simp [insI]
  | y :: ys => by
    unfold insI
    split
    · simp
    · split
      · rename_i h
        subst h
        simp
      · rw [List.mem_cons, insI_mem, List.mem_cons]
        constructor
        · rintro (h | h | h)
          · exact .inr (.inl h)
          · exact .inl h
          · exact .inr (.inr h)
        · rintro (h | h | h)
          · exact .inr (.inl h)
          · exact .inl h
          · exact .inr (.inr h)
theorem insI_sorted {x : Int} : ∀ {ys : List Int}, ys.Pairwise (· < ·) → (insI x ys).Pairwise (· < ·)
  | [], _ => by simp [insI]
  | y :: ys, h => by
    unfold insI
    split
    · rename_i l
      refine List.pairwise_cons.mpr ⟨fun z hz => ?_, h⟩
      rcases List.mem_cons.mp hz with rfl | hz
      · exact l
      · exact Int.lt_trans l ((List.pairwise_cons.mp h).1 z hz)
    · split
      · exact h
      · rename_i n1 n2
        refine List.pairwise_cons.mpr ⟨fun z hz => ?_, insI_sorted (List.pairwise_cons.mp h).2⟩
        rcases insI_mem.mp hz with rfl | hz
        · omega
        · exact (List.pairwise_cons.mp h).1 z hz
theorem sortI_mem {k : Int} : ∀ {xs : List Int}, k ∈ sortI xs ↔ k ∈ xs
  | [] => by simp [sortI]
  | x :: xs => by rw [sortI, insI_mem, sortI_mem, List.mem_cons]
theorem sortI_sorted : ∀ (xs : List Int), (sortI xs).Pairwise (· < ·)
  | [] => .nil
  | x :: xs => insI_sorted (sortI_sorted xs)
theorem sorted_uniq : ∀ {xs ys : List Int}, xs.Pairwise (· < ·) → ys.Pairwise (· < ·) → (∀ k, k ∈ xs ↔ k ∈ ys) → xs = ys
  | [], [], _, _, _ => rfl
  | [], y :: ys, _, _, h => absurd ((h y).mpr List.mem_cons_self) (by simp)
  | x :: xs, [], _, _, h => absurd ((h x).mp List.mem_cons_self) (by simp)
  | x :: xs, y :: ys, h1, h2, h => by
    have a1 := List.pairwise_cons.mp h1
    have a2 := List.pairwise_cons.mp h2
    have e : x = y := by
      rcases List.mem_cons.mp ((h x).mp List.mem_cons_self) with e | e
      · exact e
      · rcases List.mem_cons.mp ((h y).mpr List.mem_cons_self) with e' | e'
        · exact e'.symm
        · have := a1.1 y e'
          have := a2.1 x e
          omega
    subst e
    congr 1
    refine sorted_uniq a1.2 a2.2 fun k => ⟨fun m => ?_, fun m => ?_⟩
    · rcases List.mem_cons.mp ((h k).mp (List.mem_cons_of_mem _ m)) with e | e
      · have := a1.1 k m
        omega
      · exact e
    · rcases List.mem_cons.mp ((h k).mpr (List.mem_cons_of_mem _ m)) with e | e
      · have := a2.1 k m
        omega
      · exact e
def rSetT (K : PySem.W.Frag) (w : World) : List V → Hp → VK → Prop := fun xs H Q => ∃ (t : Addr) (ns : List Int), xs = [V.ref t] ∧ SqT K H t (ns.map V.int) ∧ ns.length < 64 ∧
  ∀ p c, H p = none → c ≤ ns.length → Q (.ref p) (upd H p (SetO w p (fun j => decide (j ∈ ns)) c))
theorem cr_setT (hc : X.calm = true) : CallR X (.type "set") (rSetT X.K X.w) := by
  intro pins s σ H vs us Q I r h
  obtain ⟨t, ns, rfl, hs, hl, q⟩ := h
  obtain ⟨its, rv, ht, _⟩ := I.tuple hs
  rw [Vals.ref1 r]
  refine call_set_tupI ns (I.ok.hd hc) ht (by simpa using rv.ints) (by unfold scanBound; omega) fun h' tk c S hcn k => ?_
  exact ⟨.ref _, upd H s.heap.objs.size (SetO X.w s.heap.objs.size (fun j => decide (j ∈ ns)) c), I.laid (t' := tk) k (Nat.le_refl _) (setO_new S), rfl, q _ c (I.hok.fresh (Nat.le_refl _)) hcn⟩
def gSS : PyData → Option Val
  | .tuple xs => match intsD xs with
    | some ns => if ns.length < 64 then some (.n (.list ((sortI ns).map .int))) else none
    | none => none
  | _ => none
theorem de_sortSet {ca : CE} {p2 pos2 : Pos} (hc : X.calm = true) (b : Blt X "sorted" (.builtin "sorted")) (b2 : Blt X "set" (.type "set")) (ha : DE X e ca)
    (he : starEach [e] X.env = (false, eval e X.env) :: starEach [] X.env) (he2 : starEach [.Call (.Name "set" p2) [e] [] pos2] X.env = (false, eval (.Call (.Name "set" p2) [e] [] pos2) X.env) :: starEach [] X.env) (hpl : (backTo pos (starEach [] X.env)).any (·.1) = false) (hpl2 : (backTo pos2 (starEach [] X.env)).any (·.1) = false) :
    DE X (.Call (.Name "sorted" p) [.Call (.Name "set" p2) [e] [] pos2] [] pos) (cOp1 gSS ca) := by
  refine ⟨PE.weak (pe_callB (cr_sortedSet hc) b.g b.m b.v (pa_cons (pe_callTy (cr_setT hc) b2.g b2.m b2.v (pa_cons ha.pe pa_nil he) (by decide) (by decide) he hpl2) pa_nil he2) (by decide) (by decide) he2 hpl) fun σ H Q h => ?_⟩
  obtain ⟨B, ρ, z, ρ', R, e, k⟩ := h
  obtain ⟨ra, ρ1, x, h1, h3, h5, h6⟩ := cOp1_some e
  have h6' : ρ' = ρ1 := h6
  subst h6'
  refine ⟨B, ρ, ra, ρ', R, h1, fun v B1 H1 x1 v1 => ?_⟩
  have rd := v1.read x1.rel h3
  have o : Outc X.K B1 H1 z Q := Outc.of R x1 k
  unfold gSS at h5
  split at h5
  · split at h5
    · rename_i ns hns
      split at h5
      · rename_i hl
        cases h5
        obtain ⟨t, us, rfl, s, g⟩ := rd.tup
        rw [ints_good g hns] at s
        refine ⟨t, ns, rfl, s, hl, fun p c np hcn => ?_⟩
        refine ⟨p, _, c, rfl, upd_same, by omega, fun ns' p2 hs' hm' hl' np2 => ?_⟩
        have en : ns' = sortI ns := sorted_uniq hs' (sortI_sorted ns) fun k => by rw [hm' k, sortI_mem]; simp
        subst en
        refine o _ _ (Same.trans (same_updD np) (same_updD np2)) ?_
        refine ⟨p2, _, _, rfl, rfl, ?_, upd_same, good_ints _⟩
        cases q : H1 p2 with
        | none => rfl
        | some ob =>
          have := same_updD (o := SetO X.w p (fun j => decide (j ∈ ns)) c) np p2 ob q
          rw [np2] at this
          cases this
      · cases h5
    · cases h5
  · cases h5
end
end DL

/-! DL17: the law's own call. -/
namespace DL
open PySem PySem.Spec PyProof.Rows L2
/-- the script's object, tracked or of the written part -/
def scrH (K : PySem.W.Frag) (a : Addr) (vs : List Value) (ns : List Int) : Hp := fun b => match K.lookup a with
  | some _ => none
  | none => if b = a then some (.frz { cls := .type "list", data := .seq vs.toArray } (.lst (ns.map V.int))) else none
theorem scrH_some {K : PySem.W.Frag} {a b : Addr} {vs : List Value} {ns : List Int} {u : HO} (h : scrH K a vs ns b = some u) : K.lookup a = none ∧ b = a ∧ u = .frz { cls := .type "list", data := .seq vs.toArray } (.lst (ns.map V.int)) := by
  unfold scrH at h
  split at h
  · cases h
  · rename_i n
    split at h
    · rename_i e
      cases h
      exact ⟨n, e, rfl⟩
    · cases h
theorem law_g {P : Program} {w : World} {K : PySem.W.Frag} {mg mb : Str → Option Value} {k : Nat} {fa a : Addr} {fd : FuncData} {x : Str} {sp : Sp} {s : Shared} {vs : List Value} {ns : List Int}
    (kin : K.In s.heap) (gl : s.heap.Ns mainGlobals mg) (bl : s.heap.Ns builtinsNs mb) (same : ∀ x : Str, x ≠ "__name__" → mb x = bootBuiltins x) (nolim : s.heap.NoLimit) (nog : s.gens = #[])
    (ha : s.heap.get? a = some { cls := .type "list", data := .seq vs.toArray }) (hi : IntsAre vs ns) (hl : ns.length ≤ sizeLine) (room : Room k callerA)
    (F : ∀ base : Heap, K.In base → base.Ns mainGlobals mg → FnG P w K mg base k fa fd [x] sp) (hb : ∀ (s : Shared) (u : Value), BindsTo s fd ⟨[u], []⟩ [(x, u)])
    (hsp : ∀ H : Hp, SqL K H a (ns.map V.int) → (∀ b o, H b = some o → b = a) → sp [.ref a] H (fun v _ => v = .bl true) fun _ _ _ => False) :
    codeAny (model P w) callerA (.call (.ref fa) ⟨[.ref a], []⟩) (fun r s' => r = .ok (.ret (.bool true)) ∧ OldK s.heap s'.heap ∧ s'.os = s.os ∧ AllBare s'.gens) s := by
  have rv : Vals (ns.map V.int) vs := vals_ints hi
  have nl : vs.length = ns.length := hi.length
  have only : ∀ b o, scrH K a vs ns b = some o → b = a := fun b o e => (scrH_some e).2.1
  have ok : HOk P w (scrH K a vs ns) s.heap := fun b u e => by
    obtain ⟨_, rfl, rfl⟩ := scrH_some e
    exact ⟨ha, by rw [List.length_map]; exact hl, vs, _, rv, ha⟩
  have sq : SqL K (scrH K a vs ns) a (ns.map V.int) := by
    cases q : K.lookup a with
    | some o =>
      have e := kin a o q
      rw [ha] at e
      cases e
      exact .inr ⟨_, vs.toArray, _, q, rfl, rfl, rfl, by rw [List.size_toArray, nl]; exact hl, by simpa using rv⟩
    | none =>
      refine .inl (.inr ⟨{ cls := .type "list", data := .seq vs.toArray }, ?_⟩)
      unfold scrH
      rw [q]
      exact if_pos rfl
  -- what stands beside the script
  have free : ∀ {b : Addr} {o : Obj}, s.heap.get? b = some o → scrH K a vs ns b = none → (hidT s.heap (scrH K a vs ns)).get? b = some o := fun e n => hidT_get e n
  have dicts : ∀ {b : Addr} {o : Obj} {es : Array DictEntry} {ep : Nat}, s.heap.get? b = some o → o.data = .dict es ep → scrH K a vs ns b = none := fun {b o es ep} e d => by
    cases q : scrH K a vs ns b with
    | none => rfl
    | some u =>
      have eb := only b u q
      rw [eb, ha] at e
      cases e
      have d' : Data.seq vs.toArray _ = Data.dict es ep := d
      cases d'
  have nss : ∀ {b : Addr} {m : Str → Option Value}, s.heap.Ns b m → (hidT s.heap (scrH K a vs ns)).Ns b m := fun {b m} h => by
    obtain ⟨o, es, ep, e, d, r⟩ := h
    exact ⟨o, es, ep, free e (dicts e d), d, r⟩
  have kin' : K.In (hidT s.heap (scrH K a vs ns)) := fun b o e => free (kin b o e) (by
    cases q : scrH K a vs ns b with
    | none => rfl
    | some u =>
      obtain ⟨n, eb, _⟩ := scrH_some q
      rw [eb, n] at e
      cases e)
  have md : Mod K mg (hidT s.heap (scrH K a vs ns)) := by
    obtain ⟨mc, m1, m2⟩ := nolim
    exact ⟨kin', nss gl, ⟨mb, nss bl, same⟩, ⟨mc, nss m1, m2⟩⟩
  have e0 : Env0 P w K mg (hidT s.heap (scrH K a vs ns)) callerA [] s (scrH K a vs ns) := ⟨rfl, md, fun b o e => of_hidT e, Nat.le_of_eq (hidT_size _ _), trivial, fun b hb => absurd hb (by simp [frs]), ok, .of_eq nog⟩
  have run := (F _ kin' (nss gl)).run callerA [] s (scrH K a vs ns) ⟨[.ref a], []⟩ [.ref a] [.ref a] (fun v _ => v = .bl true) (fun _ _ _ => False) ⟨room, rfl⟩ e0 (hb s (.ref a)) (.cons rfl .nil) (hsp _ sq only)
  refine codeAny_mono run fun r s' h => ?_
  cases r with
  | error e => exact (show False from h).elim
  | ok fl =>
    cases fl with
    | next => exact (show False from h).elim
    | brk => exact (show False from h).elim
    | cont => exact (show False from h).elim
    | ret u =>
      obtain ⟨v, H', os, bare, un, ok', rr, q⟩ := h
      have q : v = .bl true := q
      subst q
      have rr : u = Value.bool true := rr
      subst rr
      refine ⟨rfl, OldK.of_keep fun b o e => ?_, os, bare⟩
      cases q : scrH K a vs ns b with
      | none => exact un.keep b o e q (fun z => nomatch z) (fun z => nomatch z)
      | some u =>
        obtain ⟨_, rfl, rfl⟩ := scrH_some q
        have z2 := un.frzs b _ _ q
        obtain ⟨e1, _⟩ := ok b _ q
        obtain ⟨e2, _⟩ := ok' b _ z2
        rw [e] at e1
        cases e1
        exact e2
/-- the row, from the law's sense -/
theorem walk_g {l : PySem.W.OpenLaw} {n k : Nat} {q : Program} {loose : List Str} {XP : (Str → Option Value) → Heap → Prop} {YP : World → Heap → Prop} {d : DefRec} {K : Params → PySem.W.Frag} {x : Str} {G : FE}
    (hn : l.most = some n) (hn2 : n ≤ sizeLine) (hdf : d.params.defaults = []) (room : Room k callerA) (hY : ∀ (w : World) (h : Heap), YP w h → (K w.params).In h)
    (F : ∀ (w : World) (mg : Str → Option Value) (fa : Addr) (h : Heap), (K w.params).In h → h.Ns mainGlobals mg → mg d.name = some (.ref fa) →
      ∃ fd : FuncData, (∀ (s : Shared) (u : Value), BindsTo s fd ⟨[u], []⟩ [(x, u)]) ∧
        ∀ base : Heap, (K w.params).In base → base.Ns mainGlobals mg → FnG l.prog w (K w.params) mg base k fa fd [x] (spD (K w.params) 1 G))
    (law : ∀ ns : List Int, ns.length ≤ n → (∀ z ∈ ns, Builtin.Int.intBits z ≤ 1048576) → ∃ outs, G [.ro (ns.map .int)] = some (.d (.bool true), outs)) :
    PySem.W.WalkO q loose XP YP l.row.toRowW d [] (fun f vs => PySem.call f vs) := by
  refine Att.attach_callB hn hdf fun w s₀ s mg mb fa o pm cd doc a vs ns G0 Y ho hd hcd hmg hobj hints hlen hbits hg => ?_
  have kin := hY w _ Y
  obtain ⟨fd, hb, hF⟩ := F w mg fa _ kin G0.T.g hmg
  refine law_g kin G0.T.g G0.T.b G0.T.builtins G0.T.nolimit hg hobj hints (Nat.le_trans hlen hn2) room hF hb fun H hS hO => ?_
  obtain ⟨outs, e⟩ := law ns hlen hbits
  have nown : ∀ c, ¬ OwnA (slots [V.ref a]) (envs [SV.ro (ns.map .int)]) c := fun c ⟨j, xs, h1, h2⟩ => by
    have h1 := envs_get.mp h1
    cases j with
    | zero => cases h1
    | succ j => simp at h1
  refine ⟨rfl, fun _ => False, [.ro (ns.map .int)], .d (.bool true), outs, ⟨fun j y h => ?_, fun j y h => ?_, fun j y h => ?_, fun i j xs ys c h1 _ h3 _ => (nown c ⟨i, xs, h1, h3⟩).elim, fun _ z => z.elim, rfl⟩, e, fun v B' H' _ rv => ?_⟩
  · have h := envs_get.mp h
    cases j with
    | zero => cases h
    | succ j => simp at h
  · have h := envs_get.mp h
    cases j with
    | zero => cases h
    | succ j => simp at h
  · have h := envs_get.mp h
    cases j with
    | zero =>
      cases h
      refine ⟨a, ns.map V.int, rfl, ?_, good_ints ns⟩
      rcases hS with r | s
      · exact .inl ⟨nown a, r⟩
      · exact .inr s
    | succ j => simp at h
  · exact good_bl rv
end DL

/-! DL18: short words for the printed proofs. -/
namespace DL
open PySem PySem.Spec PyProof.Rows L2
section
variable {X : Cx} {K : PySem.W.Frag}
theorem dv (i : Nat) {x : Str} {pos : Pos} (hN : X.N[i]? = some x) (hv : Vis X.env.scope x) (hd : (x == ("__debug__" : Str)) = false := by decide) (hcd : (x == ("__classdict__" : Str)) = false := by decide) : DE X (.Name x pos) (cVar i) := de_var hN hv hd hcd
theorem de_gint {x : Str} {i : Int} {pos : Pos} (hm : ∃ t, X.mg x = some (.int i t)) (hg : Gl X x) (hd : (x == ("__debug__" : Str)) = false) : DE X (.Name x pos) (cCst (.int i)) := by
  obtain ⟨t, hm⟩ := hm
  exact de_glob hg hm (show RelV (.int i) (.int i t) from ⟨t, rfl⟩) (fun _ _ => .int i) hd
theorem de_gstr {x : Str} {i : Str} {pos : Pos} (hm : ∃ t, X.mg x = some (.str i t)) (hg : Gl X x) (hd : (x == ("__debug__" : Str)) = false) : DE X (.Name x pos) (cCst (.str i)) := by
  obtain ⟨t, hm⟩ := hm
  exact de_glob hg hm (show RelV (.str i) (.str i t) from ⟨t, rfl⟩) (fun _ _ => .str i) hd
theorem len_nil : ∀ ρ z, cNil ρ = some z → z.1.length = 0 := fun ρ z e => by
  cases e
  rfl
theorem len_cons {c : CE} {cs : CA} {n : Nat} (h : ∀ ρ z, cs ρ = some z → z.1.length = n) : ∀ ρ z, cCons c cs ρ = some z → z.1.length = n + 1 := fun ρ z e => by
  obtain ⟨r, ρ1, rs, h1, h2, h3⟩ := cCons_some e
  rw [h3, List.length_cons, h _ _ h2]
theorem simple_of {x qual : Str} {st : Stmt} {f : Addr} {fd : FuncData} {ps : List Str} (F : L2.Fun K x qual st f fd) (h1 : (defArgs st).posonlyargs = []) (h2 : (defArgs st).args.map (·.arg) = ps) (h3 : (defArgs st).kwonlyargs = []) (h4 : (defArgs st).vararg = none) (h5 : (defArgs st).kwarg = none) : Simple fd ps := by
  obtain ⟨oc, od, kV, dc, pm, an, cdv, ct, osl, rfl, _, _⟩ := F.ex
  exact ⟨h1, h2, h3, h4, h5, rfl⟩
theorem binds_one {fd : FuncData} {x : Str} {s : Shared} {v : Value} (S : Simple fd [x]) : BindsTo s fd ⟨[v], []⟩ [(x, v)] := by
  have h := bind_kw (ps := [x]) (ks := []) (us := [v]) (ws := []) S (by simp [kwOk]) rfl
  have e : [x].zip (putK [x] [] [v] []) = [(x, v)] := by simp [putK, List.lookup]
  rw [e] at h
  exact .of_eq h
theorem hu64 {k : Nat} {A : Around} (h : RoomG k A) : A.units + 64 < cLine := h.r.units
theorem hu65 {k : Nat} {A : Around} (h : RoomG k A) : A.units + 65 < cLine := by
  have := h.r.un
  omega
end
end DL

/-! DL19: the senses evaluated. -/
namespace DL
open PySem PySem.Spec PyProof.Rows L2
section
variable {ρ ρ' ρ1 ρ2 : Env} {ca cb cc : CE} {ct cu : CT} {cs ck : CA} {s t : CS} {st : ST} {g g' : PyData → PyData → Option Val} {g1 : PyData → Option Val} {gn : GN} {i j np nl : Nat} {x y : PyData} {F : FE} {ms : List Bool} {ps ks : List Str} {io ow is : List Nat} {ts : List ST} {ci : CI} {r : Val} {rs : List Val}
@[simp] theorem ev_var : cVar i ρ = (match ρ[i]? with
  | some (some (.d x)) => some (.d x, ρ)
  | some (some (.own _)) => some (.b i, ρ)
  | some (some (.ro _)) => some (.b i, ρ)
  | _ => none) := rfl
@[simp] theorem ev_cst : cCst x ρ = some (.d x, ρ) := rfl
@[simp] theorem ev_op2 : cOp2 g ca cb ρ = (ca ρ).bind fun a => (cb a.2).bind fun b => (dat b.2 a.1).bind fun x => (dat b.2 b.1).bind fun y => (g x y).map fun o => (o, b.2) := by
  unfold cOp2
  simp [Option.bind_eq_bind, Option.map_eq_bind, Function.comp_def]
@[simp] theorem ev_op1 : cOp1 g1 ca ρ = (ca ρ).bind fun a => (dat a.2 a.1).bind fun x => (g1 x).map fun o => (o, a.2) := by
  unfold cOp1
  simp [Option.bind_eq_bind, Option.map_eq_bind, Function.comp_def]
@[simp] theorem ev_fn : cFn gn cs ρ = (cs ρ).bind fun a => (datAll a.2 a.1).bind fun x => (gn x).map fun o => (o, a.2) := by
  unfold cFn
  simp [Option.bind_eq_bind, Option.map_eq_bind, Function.comp_def]
@[simp] theorem ev_nil : cNil ρ = some ([], ρ) := rfl
@[simp] theorem ev_cons : cCons ca cs ρ = (ca ρ).bind fun a => (cs a.2).map fun b => (a.1 :: b.1, b.2) := by
  unfold cCons
  simp [Option.bind_eq_bind, Option.map_eq_bind, Function.comp_def]
@[simp] theorem ev_dd : dat ρ (.d x) = some x := rfl
@[simp] theorem ev_dn : dat ρ (.n x) = some x := rfl
@[simp] theorem ev_db : dat ρ (.b i) = slotD ρ[i]? := rfl
@[simp] theorem ev_datAll0 : datAll ρ [] = some [] := rfl
@[simp] theorem ev_datAll1 : datAll ρ (r :: rs) = (dat ρ r).bind fun x => (datAll ρ rs).map fun xs => x :: xs := by
  simp [datAll, Option.bind_eq_bind, Option.map_eq_bind, Function.comp_def]
@[simp] theorem ev_keepAll0 : keepAll [] = some [] := rfl
@[simp] theorem ev_keepAll1 : keepAll (r :: rs) = (keepV r).bind fun x => (keepAll rs).map fun xs => x :: xs := by
  simp [keepAll, Option.bind_eq_bind, Option.map_eq_bind, Function.comp_def]
@[simp] theorem ev_keepd : keepV (.d x) = some x := rfl
@[simp] theorem ev_keepn : keepV (.n x) = some x := rfl
@[simp] theorem ev_keepb : keepV (.b i) = none := rfl
theorem bsome {α β : Type} {a : α} {f : α → Option β} : (some a).bind f = f a := rfl
@[simp] theorem ev_tup : cTup cs ρ = (cs ρ).bind fun a => (keepAll a.1).bind fun xs => if xs.length ≤ sizeLine then some (.d (.tuple xs), a.2) else none := rfl
@[simp] theorem ev_lst : cLst cs ρ = (cs ρ).bind fun a => (keepAll a.1).bind fun xs => if xs.length ≤ sizeLine then some (.n (.list xs), a.2) else none := rfl
def tstV : Option (Val × Env) → Option (Bool × Env)
  | some (.d (.bool b), ρ') => some (b, ρ')
  | _ => none
@[simp] theorem tstV_b {b : Bool} : tstV (some (.d (.bool b), ρ)) = some (b, ρ) := rfl
@[simp] theorem ev_tst : cTst ca ρ = tstV (ca ρ) := rfl
theorem ev_and : cAnd ca cb ρ = (tstV (ca ρ)).bind fun a => if a.1 = true then cb a.2 else some (.d (.bool false), a.2) := by
  unfold cAnd tstV
  split <;> simp_all
theorem ev_or : cOr ca cb ρ = (tstV (ca ρ)).bind fun a => if a.1 = true then some (.d (.bool true), a.2) else cb a.2 := by
  unfold cOr tstV
  split <;> simp_all
theorem ev_not : cNot ca ρ = (tstV (ca ρ)).map fun a => (.d (.bool (!a.1)), a.2) := by
  unfold cNot tstV
  split <;> simp_all
theorem ev_if : cIf ct ca cb ρ = (ct ρ).bind fun a => if a.1 = true then ca a.2 else cb a.2 := by
  unfold cIf
  split <;> simp_all
theorem ev_tand : tAndT ct cu ρ = (ct ρ).bind fun a => if a.1 = true then cu a.2 else some (false, a.2) := by
  unfold tAndT
  split <;> simp_all
theorem ev_tor : tOrT ct cu ρ = (ct ρ).bind fun a => if a.1 = true then some (true, a.2) else cu a.2 := by
  unfold tOrT
  split <;> simp_all
theorem ev_tnot : tNotT ct ρ = (ct ρ).map fun a => (!a.1, a.2) := by
  unfold tNotT
  split <;> simp_all
theorem ev_chain : cChain g g' ca cb cc ρ = (cOp2 g ca cb ρ).bind fun a => match a with
  | (.d (.bool false), ρ') => some (.d (.bool false), ρ')
  | (.d (.bool true), _) => (ca ρ).bind fun p => (cb p.2).bind fun q => (cc q.2).bind fun r => (dat r.2 q.1).bind fun y => (dat r.2 r.1).bind fun z => (g' y z).map fun o => (o, r.2)
  | _ => none := by
  unfold cChain
  split
  · rename_i h
    rw [h]
    rfl
  · rename_i h
    rw [h]
    simp [Option.bind_eq_bind, Option.map_eq_bind, Function.comp_def]
  · rename_i h1 h2
    cases q : cOp2 g ca cb ρ with
    | none => rfl
    | some a =>
      rw [bsome]
      split
      · exact (h1 _ q).elim
      · exact (h2 _ q).elim
      · rfl
/-! ### calls -/
@[simp] theorem ev_call : cCall np F ms cs ρ = (cs ρ).bind fun a => cApp np F ms a.1 a.2 := by
  unfold cCall
  simp [Option.bind_eq_bind]
@[simp] theorem ev_callK : cCallK np F ms ps ks cs ck ρ = (cs ρ).bind fun a => (ck a.2).bind fun b => cApp np F ms (putK ps ks (a.1.map settle) (b.1.map settle)) b.2 := by
  unfold cCallK
  simp [Option.bind_eq_bind]
@[simp] theorem ev_app : cApp np F ms rs ρ = if rs.length = np ∧ (bs rs).Nodup then (argAll ρ ms rs).bind fun svs => (F svs).bind fun o => if notB o.1 = true then some (o.1, wb ms rs o.2 ρ) else none else none := by
  unfold cApp
  simp [Option.bind_eq_bind]
@[simp] theorem ev_settled : settle (.d x) = .d x := rfl
@[simp] theorem ev_settlen : settle (.n x) = .d x := rfl
@[simp] theorem ev_settleb : settle (.b i) = .b i := rfl
@[simp] theorem ev_argAll0 : argAll ρ [] [] = some [] := rfl
@[simp] theorem ev_argAll1 {m : Bool} : argAll ρ (m :: ms) (r :: rs) = (argS ρ m r).bind fun x => (argAll ρ ms rs).map fun xs => x :: xs := by
  simp [argAll, Option.bind_eq_bind, Option.map_eq_bind, Function.comp_def]
@[simp] theorem ev_argd : argS ρ false (.d x) = some (.d x) := rfl
@[simp] theorem ev_argn : argS ρ false (.n x) = some (.d x) := rfl
@[simp] theorem ev_argnl {xs : List PyData} : argS ρ true (.n (.list xs)) = some (.own xs) := rfl
@[simp] theorem ev_argb {m : Bool} : argS ρ m (.b i) = argB m ρ[i]? := rfl
@[simp] theorem ev_argB1 {xs : List PyData} : argB true (some (some (.own xs))) = some (.own xs) := rfl
@[simp] theorem ev_argB2 {xs : List PyData} : argB false (some (some (.own xs))) = some (.ro xs) := rfl
@[simp] theorem ev_argB3 {xs : List PyData} : argB false (some (some (.ro xs))) = some (.ro xs) := rfl
@[simp] theorem ev_bs0 : bs [] = [] := rfl
@[simp] theorem ev_bsb : bs (.b i :: rs) = i :: bs rs := rfl
@[simp] theorem ev_bsd : bs (.d x :: rs) = bs rs := rfl
@[simp] theorem ev_bsn : bs (.n x :: rs) = bs rs := rfl
@[simp] theorem ev_notd : notB (.d x) = true := rfl
@[simp] theorem ev_notn : notB (.n x) = true := rfl
@[simp] theorem ev_wb0 {svs : List SV} : wb [] rs svs ρ = ρ := rfl
@[simp] theorem ev_wb1 {m : Bool} {sv : SV} {svs : List SV} : wb (m :: ms) (r :: rs) (sv :: svs) ρ = wb ms rs svs (wb1 m r sv ρ) := rfl
@[simp] theorem ev_wb1b {sv : SV} : wb1 true (.b i) sv ρ = ρ.set i (some sv) := rfl
@[simp] theorem ev_wb1d {m : Bool} {sv : SV} : wb1 m (.d x) sv ρ = ρ := by cases m <;> rfl
@[simp] theorem ev_wb1n {m : Bool} {sv : SV} : wb1 m (.n x) sv ρ = ρ := by cases m <;> rfl
@[simp] theorem ev_wb1f {sv : SV} : wb1 false r sv ρ = ρ := by cases r <;> rfl
/-! ### statements -/
def seqV (t : CS) : Option (Fl × Env) → Option (Fl × Env)
  | some (.nx, ρ1) => t ρ1
  | z => z
@[simp] theorem ev_seq : sSeq s t ρ = seqV t (s ρ) := by
  unfold sSeq seqV
  split <;> simp_all
@[simp] theorem seqV_nx : seqV t (some (.nx, ρ)) = t ρ := rfl
@[simp] theorem seqV_rt : seqV t (some (.rt r, ρ)) = some (.rt r, ρ) := rfl
@[simp] theorem ev_nx : sNx ρ = some (.nx, ρ) := rfl
@[simp] theorem ev_set : sSet io ow i ca ρ = (ca ρ).bind fun a => (asgV (ow.contains i) a.1).bind fun sv => if io.contains i = true then none else some (.nx, a.2.set i (some sv)) := by
  unfold sSet
  simp [Option.bind_eq_bind]
@[simp] theorem ev_asgd : asgV false (.d x) = some (.d x) := rfl
@[simp] theorem ev_asgn : asgV false (.n x) = some (.d x) := rfl
@[simp] theorem ev_asgl {xs : List PyData} : asgV true (.n (.list xs)) = some (.own xs) := rfl
theorem ev_sif : sIf ct s t ρ = (ct ρ).bind fun a => if a.1 = true then s a.2 else t a.2 := by
  unfold sIf
  split <;> simp_all
@[simp] theorem ev_ret : sRet io ca ρ = (ca ρ).bind fun a => (retV io a.2 a.1).map fun o => (.rt o, a.2) := by
  unfold sRet
  simp [Option.bind_eq_bind, Option.map_eq_bind, Function.comp_def]
@[simp] theorem ev_retd : retV io ρ (.d x) = some (.d x) := rfl
@[simp] theorem ev_retn : retV io ρ (.n x) = some (.n x) := rfl
@[simp] theorem ev_to : sTo ca st ρ = (ca ρ).bind fun a => (keepV a.1).bind fun x => (st x a.2).map fun o => (.nx, o) := by
  unfold sTo
  simp [Option.bind_eq_bind, Option.map_eq_bind, Function.comp_def]
@[simp] theorem ev_gN : gN io i x ρ = if io.contains i = true then none else some (ρ.set i (some (.d x))) := rfl
@[simp] theorem ev_gTu {xs : List PyData} : gTu ts (.tuple xs) ρ = gTs ts xs ρ := rfl
@[simp] theorem ev_gTs0 : gTs [] [] ρ = some ρ := rfl
@[simp] theorem ev_gTs1 {xs : List PyData} : gTs (st :: ts) (x :: xs) ρ = (st x ρ).bind fun ρ1 => gTs ts xs ρ1 := by
  simp [gTs, Option.bind_eq_bind]
@[simp] theorem ev_par : sPar io ow is cs ρ = (cs ρ).bind fun a => (asgAll ow is a.1).bind fun svs => if (is.all fun i => !io.contains i) = true then some (.nx, setAll is svs a.2) else none := by
  unfold sPar
  simp [Option.bind_eq_bind]
@[simp] theorem ev_asgAll0 : asgAll ow [] [] = some [] := rfl
@[simp] theorem ev_asgAll1 : asgAll ow (i :: is) (r :: rs) = (asgV (ow.contains i) r).bind fun sv => (asgAll ow is rs).map fun svs => sv :: svs := by
  simp [asgAll, Option.bind_eq_bind, Option.map_eq_bind, Function.comp_def]
@[simp] theorem ev_setAll1 {α : Type} {y : α} {xs : List α} {τ : List (Option α)} : setAll (i :: is) (y :: xs) τ = setAll is xs (τ.set i (some y)) := rfl
@[simp] theorem ev_setAll0 {α : Type} {τ : List (Option α)} : setAll [] ([] : List α) τ = τ := rfl
theorem ev_fn0 {svs : List SV} {c : CS} {ρ0 : Env} {z : Option (Val × List SV)} (h1 : svs.length = np) (h2 : ownsIn io 0 svs = true) (h0 : envs svs ++ List.replicate (nl - np) none = ρ0) (h : (match c ρ0 with
    | some (.rt r, ρ') => some (r, outsAll ρ' 0 svs)
    | some (.nx, ρ') => some (.d .none, outsAll ρ' 0 svs)
    | _ => none) = z) : fnSem np nl io c svs = z := by
  unfold fnSem
  rw [if_pos ⟨h1, h2⟩, h0]
  exact h
theorem fn_rt {svs : List SV} {c : CS} {ρ0 ρ' : Env} {r : Val} (h1 : svs.length = np) (h2 : ownsIn io 0 svs = true) (h0 : envs svs ++ List.replicate (nl - np) none = ρ0) (h : c ρ0 = some (.rt r, ρ')) : fnSem np nl io c svs = some (r, outsAll ρ' 0 svs) := by
  refine ev_fn0 h1 h2 h0 ?_
  rw [h]
end
end DL

/-! DL20: loops evaluated; equality, order and repr of data. -/
namespace DL
open PySem PySem.Spec PyProof.Rows L2
section
variable {ρ ρ' ρ0 ρ1 ρ2 ρ3 ρL : Env} {ce : CE} {ct : CT} {body : CS} {st : ST} {b : Bnd} {is : List Nat} {ci : CI} {r : Val} {ds : List PyData} {acc : List PyData}
theorem loopC_pure (t : PyData → Bool) (f : PyData → PyData) : ∀ (ds acc : List PyData), (∀ d ∈ ds, ∃ ρb, bindB b d ρ0 = some ρb ∧ ct ρb = some (t d, ρb) ∧ (t d = true → ∃ r, ce ρb = some (r, ρb) ∧ keepV r = some (f d)) ∧ (is.all fun i => notOwn ρb i) = true ∧ wipeE ρb is = ρ0) →
    acc.length + ds.length ≤ sizeLine → loopC is b ct ce ds ρ0 acc = some (acc ++ (ds.filter t).map f, ρ0)
  | [], acc, _, _ => by
    rw [loopC, List.filter_nil, List.map_nil, List.append_nil]
  | d :: ds, acc, h, hl => by
    obtain ⟨ρb, h1, h2, h3, h4, h5⟩ := h d List.mem_cons_self
    have hl' : acc.length + (ds.length + 1) ≤ sizeLine := hl
    rw [loopC]
    simp only [Option.bind_eq_bind, h1, h2, Option.bind_some]
    cases q : t d with
    | true =>
      obtain ⟨r, e1, e2⟩ := h3 q
      simp only [e1, e2, Option.bind_some]
      rw [if_pos ⟨by omega, h4⟩, h5, loopC_pure t f ds (acc ++ [f d]) (fun e m => h e (List.mem_cons_of_mem _ m)) (by rw [List.length_append, List.length_singleton]; omega), List.filter_cons_of_pos q, List.map_cons, List.append_assoc, List.singleton_append]
    | false =>
      simp only
      rw [if_pos h4, h5, loopC_pure t f ds acc (fun e m => h e (List.mem_cons_of_mem _ m)) (by omega), List.filter_cons_of_neg (by rw [q]; exact Bool.false_ne_true)]
theorem lc_pure (t : PyData → Bool) (f : PyData → PyData) (hi : ci ρ = some (ds, ρ1, r)) (hL : lend ρ1 r = ρL) (hw : wipeE ρL is = ρ0) (hn : (is.all fun i => notOwn ρL i) = true)
    (h : ∀ d ∈ ds, ∃ ρb, bindB b d ρ0 = some ρb ∧ ct ρb = some (t d, ρb) ∧ (t d = true → ∃ r, ce ρb = some (r, ρb) ∧ keepV r = some (f d)) ∧ (is.all fun i => notOwn ρb i) = true ∧ wipeE ρb is = ρ0) (hl : ds.length ≤ sizeLine)
    (hr : unlend ρ1 (restE ρL ρ0 is) r = some ρ3) : cLC is ci b ct ce ρ = some (.n (.list ((ds.filter t).map f)), ρ3) := by
  unfold cLC
  simp only [Option.bind_eq_bind, hi, Option.bind_some, hL, hw]
  rw [if_pos hn, loopC_pure t f ds [] h (by simpa using hl)]
  simp only [Option.bind_some, hr, List.nil_append]
  rfl
/-- where the element changes the def's own lists: what stays -/
theorem loopC_inv {I : Env → Prop} {R : PyData → Prop} : ∀ (ds acc : List PyData) (ρ : Env), (∀ d ∈ ds, ∀ ρ, I ρ → ∃ ρb r ρe x, bindB b d ρ = some ρb ∧ ct ρb = some (true, ρb) ∧ ce ρb = some (r, ρe) ∧ keepV r = some x ∧ R x ∧ (is.all fun i => notOwn ρe i) = true ∧ I (wipeE ρe is)) →
    I ρ → acc.length + ds.length ≤ sizeLine → ∃ xs ρ', loopC is b ct ce ds ρ acc = some (acc ++ xs, ρ') ∧ xs.length = ds.length ∧ (∀ x ∈ xs, R x) ∧ I ρ'
  | [], acc, ρ, _, hI, _ => ⟨[], ρ, by rw [loopC, List.append_nil], rfl, fun _ h => (nomatch h), hI⟩
  | d :: ds, acc, ρ, h, hI, hl => by
    obtain ⟨ρb, r, ρe, x, h1, h2, h3, h4, h5, h6, h7⟩ := h d List.mem_cons_self ρ hI
    have hl' : acc.length + (ds.length + 1) ≤ sizeLine := hl
    obtain ⟨xs, ρ', e1, e2, e3, e4⟩ := loopC_inv ds (acc ++ [x]) (wipeE ρe is) (fun e m => h e (List.mem_cons_of_mem _ m)) h7 (by rw [List.length_append, List.length_singleton]; omega)
    refine ⟨x :: xs, ρ', ?_, by rw [List.length_cons, List.length_cons, e2], fun y m => ?_, e4⟩
    · rw [loopC]
      simp only [Option.bind_eq_bind, h1, h2, h3, h4, Option.bind_some]
      rw [if_pos ⟨by omega, h6⟩, e1, List.append_assoc, List.singleton_append]
    · rcases List.mem_cons.mp m with rfl | m
      · exact h5
      · exact e3 y m
theorem lc_inv {I J : Env → Prop} {R : PyData → Prop} (hi : ci ρ = some (ds, ρ1, r)) (hL : lend ρ1 r = ρL) (hn : (is.all fun i => notOwn ρL i) = true) (h0 : I (wipeE ρL is))
    (h : ∀ d ∈ ds, ∀ ρ, I ρ → ∃ ρb r ρe x, bindB b d ρ = some ρb ∧ ct ρb = some (true, ρb) ∧ ce ρb = some (r, ρe) ∧ keepV r = some x ∧ R x ∧ (is.all fun i => notOwn ρe i) = true ∧ I (wipeE ρe is)) (hl : ds.length ≤ sizeLine)
    (hr : ∀ ρ2, I ρ2 → ∃ ρ3, unlend ρ1 (restE ρL ρ2 is) r = some ρ3 ∧ J ρ3) : ∃ xs ρ3, cLC is ci b ct ce ρ = some (.n (.list xs), ρ3) ∧ xs.length = ds.length ∧ (∀ x ∈ xs, R x) ∧ J ρ3 := by
  obtain ⟨xs, ρ', e1, e2, e3, e4⟩ := loopC_inv ds [] _ h h0 (by simpa using hl)
  obtain ⟨ρ3, e5, e6⟩ := hr ρ' e4
  refine ⟨xs, ρ3, ?_, e2, e3, e6⟩
  unfold cLC
  simp only [Option.bind_eq_bind, hi, Option.bind_some, hL]
  rw [if_pos hn, e1]
  simp only [Option.bind_some, e5, List.nil_append]
  rfl
theorem loopF_ix {I : Nat → Env → Prop} : ∀ (ds : List PyData) (k : Nat) (ρ : Env), (∀ i d ρ, ds[i]? = some d → I (k + i) ρ → ∃ ρ1 ρ2, st d ρ = some ρ1 ∧ body ρ1 = some (.nx, ρ2) ∧ I (k + i + 1) ρ2) → I k ρ → ∃ ρ', loopF st body ds ρ = some (.nx, ρ') ∧ I (k + ds.length) ρ'
  | [], k, ρ, _, h0 => ⟨ρ, rfl, h0⟩
  | d :: ds, k, ρ, h, h0 => by
    obtain ⟨ρ1, ρ2, e1, e2, e3⟩ := h 0 d ρ rfl h0
    obtain ⟨ρ', e4, e5⟩ := loopF_ix (I := I) ds (k + 1) ρ2 (fun i d ρ e hI => by
      have := h (i + 1) d ρ e (by rw [show k + (i + 1) = k + 1 + i by omega]; exact hI)
      rw [show k + (i + 1) + 1 = k + 1 + i + 1 by omega] at this
      exact this) e3
    refine ⟨ρ', ?_, by rw [List.length_cons, show k + (ds.length + 1) = k + 1 + ds.length by omega]; exact e5⟩
    rw [loopF, e1]
    simp only [e2]
    exact e4
theorem for_ix {I : Nat → Env → Prop} {J : Env → Prop} (hi : ci ρ = some (ds, ρ1, r)) (hL : lend ρ1 r = ρL) (h0 : I 0 ρL) (h : ∀ i d ρ, ds[i]? = some d → I i ρ → ∃ ρ1 ρ2, st d ρ = some ρ1 ∧ body ρ1 = some (.nx, ρ2) ∧ I (i + 1) ρ2)
    (hr : ∀ ρ2, I ds.length ρ2 → ∃ ρ3, unlend ρ1 ρ2 r = some ρ3 ∧ J ρ3) : ∃ ρ3, sFor ci st body ρ = some (.nx, ρ3) ∧ J ρ3 := by
  obtain ⟨ρ', e1, e2⟩ := loopF_ix (I := I) ds 0 ρL (fun i d ρ e hI => by
    rw [Nat.zero_add] at hI ⊢
    exact h i d ρ e hI) h0
  rw [Nat.zero_add] at e2
  obtain ⟨ρ3, e3, e4⟩ := hr ρ' e2
  refine ⟨ρ3, ?_, e4⟩
  unfold sFor
  rw [hi]
  simp only [hL, e1, e3]
end
/-! ### equality -/
mutual
theorem eqv_refl : ∀ (d : PyData), d.canLay0 = true → PyData.eqv d d = true
  | .none, _ => rfl
  | .bool b, _ => by simp [PyData.eqv]
  | .int i, _ => by simp [PyData.eqv]
  | .str s, _ => by simp [PyData.eqv]
  | .list xs, h => by
    rw [PyData.eqv]
    exact eqvAll_refl xs (by simpa [PyData.canLay0] using h)
  | .tuple xs, h => by
    rw [PyData.eqv]
    exact eqvAll_refl xs (by simpa [PyData.canLay0] using h)
  | .dict _, h => by simp [PyData.canLay0] at h
theorem eqvAll_refl : ∀ (ds : List PyData), PyData.canLayAll0 ds = true → PyData.eqvAll ds ds = true
  | [], _ => rfl
  | d :: ds, h => by
    rw [PyData.canLayAll0, Bool.and_eq_true] at h
    rw [PyData.eqvAll, eqv_refl d h.1, eqvAll_refl ds h.2]
    rfl
end
theorem gEq_same {x : PyData} (h : SeqAt.shaped x = true) : gEq x x = some (.d (.bool true)) := by
  have e := eqv_refl x (SeqAt.canLay_of_shaped h)
  cases x with
  | str s => simp [gEq, oB]
  | _ => simp [gEq, oB, h, e]
theorem gNe_same {x : PyData} (h : SeqAt.shaped x = true) : gNe x x = some (.d (.bool false)) := by
  have e := eqv_refl x (SeqAt.canLay_of_shaped h)
  cases x with
  | str s => simp [gNe, oB]
  | _ => simp [gNe, oB, h, e]
theorem gNe_str (s : Str) : gNe (.str s) (.str s) = some (.d (.bool false)) := by simp [gNe, oB]
/-! ### tuples of ints -/
abbrev tuI (ns : List Int) : PyData := .tuple (ns.map .int)
theorem lay_ints : ∀ (ns : List Int), PyData.canLayAll0 (ns.map .int) = true
  | [] => rfl
  | n :: ns => by
    rw [List.map_cons, PyData.canLayAll0, lay_ints ns]
    rfl
theorem dep_ints : ∀ (ns : List Int), PyData.depthAll (ns.map .int) = 0
  | [] => by simp [PyData.depthAll]
  | n :: ns => by
    rw [List.map_cons, PyData.depthAll, dep_ints ns]
    simp [PyData.depth]
theorem tuI_lay (ns : List Int) : (tuI ns).canLay0 = true := by
  rw [PyData.canLay0]
  exact lay_ints ns
theorem tuI_dep (ns : List Int) : (tuI ns).depth ≤ 1 := by
  rw [PyData.depth, dep_ints]
  omega
theorem tuI_shaped (ns : List Int) : SeqAt.shaped (tuI ns) = true := by
  unfold SeqAt.shaped
  rw [tuI_lay, Bool.true_and]
  exact decide_eq_true (Nat.le_trans (tuI_dep ns) (by decide))
theorem lay_all {ds : List PyData} (h : ∀ d ∈ ds, d.canLay0 = true) : PyData.canLayAll0 ds = true := by
  induction ds with
  | nil => rfl
  | cons d ds ih =>
    rw [PyData.canLayAll0, h d List.mem_cons_self, ih fun e m => h e (List.mem_cons_of_mem _ m)]
    rfl
theorem dep_all {ds : List PyData} {n : Nat} (h : ∀ d ∈ ds, d.depth ≤ n) : PyData.depthAll ds ≤ n := by
  induction ds with
  | nil => simp [PyData.depthAll]
  | cons d ds ih =>
    rw [PyData.depthAll]
    have h1 := h d List.mem_cons_self
    have h2 := ih fun e m => h e (List.mem_cons_of_mem _ m)
    omega
theorem list_shaped {ds : List PyData} {n : Nat} (h1 : ∀ d ∈ ds, d.canLay0 = true) (h2 : ∀ d ∈ ds, d.depth ≤ n) (hn : n ≤ 60) : SeqAt.shaped (.list ds) = true := by
  unfold SeqAt.shaped
  rw [PyData.canLay0, lay_all h1, Bool.true_and]
  refine decide_eq_true ?_
  rw [PyData.depth]
  have := dep_all h2
  omega
theorem tuI_eqv : ∀ (ns ms : List Int), PyData.eqvAll (ns.map .int) (ms.map .int) = decide (ns = ms)
  | [], [] => by simp [PyData.eqvAll]
  | [], _ :: _ => by simp [PyData.eqvAll]
  | _ :: _, [] => by simp [PyData.eqvAll]
  | n :: ns, m :: ms => by
    rw [List.map_cons, List.map_cons, PyData.eqvAll, tuI_eqv ns ms, PyData.eqv]
    by_cases h : n = m
    · subst h; simp
    · simp [h]
theorem gEq_tuI (ns ms : List Int) : gEq (tuI ns) (tuI ms) = some (.d (.bool (decide (ns = ms)))) := by
  show (if _ then _ else _) = _
  rw [if_pos ⟨tuI_shaped ns, tuI_shaped ms⟩, PyData.eqv, tuI_eqv]
  rfl
theorem gNe_tuI (ns ms : List Int) : gNe (tuI ns) (tuI ms) = some (.d (.bool (!decide (ns = ms)))) := by
  show (if _ then _ else _) = _
  rw [if_pos ⟨tuI_shaped ns, tuI_shaped ms⟩, PyData.eqv, tuI_eqv]
  rfl
theorem in_ints (k : Int) : ∀ (ns : List Int), inD (.int k) (ns.map .int) = decide (k ∈ ns)
  | [] => rfl
  | n :: ns => by
    have ih := in_ints k ns
    unfold inD at ih ⊢
    rw [List.map_cons, List.any_cons, ih, PyData.eqv]
    by_cases h : n = k
    · subst h; simp
    · by_cases h2 : k ∈ ns
      · simp [h2]
      · simp [h, h2, Ne.symm h]
theorem gIn_tuI (neg : Bool) (k : Int) (ns : List Int) : gIn neg (.int k) (tuI ns) = some (.d (.bool (neg ^^ decide (k ∈ ns)))) := by
  unfold gIn
  rw [if_pos ⟨rfl, tuI_shaped ns⟩]
  show oB (neg ^^ inD (.int k) (ns.map .int)) = _
  rw [in_ints]
  rfl
theorem bools_map : ∀ (bs : List Bool), boolsD (bs.map .bool) = some bs
  | [] => rfl
  | b :: bs => by
    rw [List.map_cons, boolsD, bools_map bs]
    rfl
theorem ints_map : ∀ (bs : List Int), intsD (bs.map .int) = some bs
  | [] => rfl
  | b :: bs => by
    rw [List.map_cons, intsD, ints_map bs]
    rfl
/-! ### sorting -/
open PySem.W (alike alikeAll dataLe sortLe_total)
theorem sortD_mem {ds : List PyData} {d : PyData} : d ∈ sortD ds ↔ d ∈ ds := List.mem_mergeSort
theorem sortD_len (ds : List PyData) : (sortD ds).length = ds.length := List.length_mergeSort ds
theorem sortD_twice (ds : List PyData) : sortD (sortD ds) = sortD ds := by
  have T : PySem.W.TotalLe (dataLe false (id : PyData → PyData)) := sortLe_total _ _ _
  exact List.mergeSort_of_pairwise (List.pairwise_mergeSort (fun a b c h1 h2 => T.trans a b c h1 h2) (fun a b => by simpa using T.total a b) ds)
theorem sortOk_tuI {nss : List (List Int)} : sortOk (nss.map tuI) = true := by
  unfold sortOk
  have hd : PyData.hasDictAll (nss.map tuI) = false := by
    have : ∀ ds : List PyData, (∀ d ∈ ds, d.canLay0 = true) → PyData.hasDictAll ds = false := fun ds h => by
      induction ds with
      | nil => rfl
      | cons d ds ih =>
        rw [PyData.hasDictAll, ih fun e m => h e (List.mem_cons_of_mem _ m), Bool.or_false]
        have := nodict_of (d := d)
        cases q : d.hasDict with
        | false => rfl
        | true =>
          have h0 := h d List.mem_cons_self
          clear this ih
          have go : ∀ d : PyData, d.canLay0 = true → d.hasDict = false := by
            intro d
            refine PyData.rec (motive_1 := fun d => d.canLay0 = true → d.hasDict = false) (motive_2 := fun ds => PyData.canLayAll0 ds = true → PyData.hasDictAll ds = false) (motive_3 := fun _ => True) (motive_4 := fun _ => True) ?_ ?_ ?_ ?_ ?_ ?_ ?_ ?_ ?_ ?_ ?_ ?_ d <;> intros <;> simp_all [PyData.canLay0, PyData.canLayAll0, PyData.hasDict, PyData.hasDictAll]
          rw [go d h0] at q
          cases q
    refine this _ fun d m => ?_
    obtain ⟨ns, _, rfl⟩ := List.mem_map.mp m
    exact tuI_lay ns
  rw [hd]
  simp only [Bool.and_eq_true, Bool.or_eq_true, List.all_eq_true, decide_eq_true_eq, Bool.not_false, and_true]
  refine ⟨⟨fun d m e m' => ?_, .inl fun d m => ?_⟩, fun d m => ?_⟩
  · obtain ⟨ns, _, rfl⟩ := List.mem_map.mp m
    obtain ⟨ms, _, rfl⟩ := List.mem_map.mp m'
    rw [alike]
    exact PySem.W.alike_ints ns ms
  · obtain ⟨ns, _, rfl⟩ := List.mem_map.mp m
    rfl
  · obtain ⟨ns, _, rfl⟩ := List.mem_map.mp m
    exact Nat.le_trans (tuI_dep ns) (by decide)
/-! ### defs without lists of their own; small steps -/
section
variable {ρ ρ' : Env} {c : CE} {np nl : Nat} {io : List Nat} {body : CS}
@[simp] theorem ev_ex : sEx c ρ = (c ρ).map fun a => (.nx, a.2) := by
  unfold sEx
  split <;> simp_all
def noOwn (svs : List SV) : Bool := svs.all fun sv => !isOwn (some sv)
theorem outs_noOwn {ρ' : Env} : ∀ {svs : List SV} {k : Nat}, noOwn svs = true → outsAll ρ' k svs = svs
  | [], _, _ => rfl
  | sv :: svs, k, h => by
    unfold noOwn at h
    rw [List.all_cons, Bool.and_eq_true] at h
    rw [outsAll, outs_noOwn h.2]
    cases sv with
    | own xs => simp [isOwn] at h
    | d x => rfl
    | ro x => rfl
theorem fn_e {svs : List SV} {ρ0 : Env} {r : Val} (h0 : envs svs ++ List.replicate (nl - np) none = ρ0) (h1 : svs.length = np) (h2 : ownsIn io 0 svs = true) (h3 : noOwn svs = true) (h : ∃ ρ', body ρ0 = some (.rt r, ρ')) : fnSem np nl io body svs = some (r, svs) := by
  obtain ⟨ρ', h⟩ := h
  rw [fn_rt h1 h2 h0 h, outs_noOwn h3]
theorem fn_n {svs : List SV} {ρ0 : Env} (h0 : envs svs ++ List.replicate (nl - np) none = ρ0) (h1 : svs.length = np) (h2 : ownsIn io 0 svs = true) (h3 : noOwn svs = true) (h : ∃ ρ', body ρ0 = some (.nx, ρ')) : fnSem np nl io body svs = some (.d .none, svs) := by
  obtain ⟨ρ', h⟩ := h
  refine ev_fn0 h1 h2 h0 ?_
  rw [h]
  simp only [outs_noOwn h3]
end
def rangeI (n : Int) : List Int := (List.range n.toNat).map fun (i : Nat) => (i : Int)
theorem nums_range (n : Int) : numsD 0 n.toNat = (rangeI n).map .int := by
  unfold numsD rangeI
  rw [List.map_map]
  refine List.map_congr_left fun i _ => ?_
  show PyData.int (0 + (i : Int)) = .int (i : Int)
  rw [Int.zero_add]
theorem rangeI_mem {n k : Int} : k ∈ rangeI n ↔ 0 ≤ k ∧ k < n := by
  unfold rangeI
  rw [List.mem_map]
  constructor
  · rintro ⟨i, m, rfl⟩
    rw [List.mem_range] at m
    omega
  · rintro ⟨h1, h2⟩
    exact ⟨k.toNat, by rw [List.mem_range]; omega, by omega⟩
theorem rangeI_sorted (n : Int) : (rangeI n).Pairwise (· < ·) := by
  unfold rangeI
  rw [List.pairwise_map]
  exact List.pairwise_lt_range.imp fun h => by omega
theorem rangeI_len (n : Int) : (rangeI n).length = n.toNat := by
  unfold rangeI
  rw [List.length_map, List.length_range]
theorem div_ok {i j : Int} (h1 : 0 < j) (h2 : j < 2 ^ 29) : CDivP i j := ⟨h1, PyProof.noPylong_small (by omega)⟩
theorem mul_k {i j : Int} (h1 : -(2 ^ 64) < j) (h2 : j < 2 ^ 64) : CMul i j := .inr ⟨h1, h2⟩
theorem small_le {n : Nat} (h : n ≤ 16777216) : n ≤ sizeLine := h
/-! ### how long a repr is -/
mutual
def reprB : PyData → Nat
  | .none => 4
  | .bool _ => 5
  | .int i => i.natAbs + 2
  | .str s => 12 * s.length + 2
  | .list xs => 2 + reprBs xs
  | .tuple xs => 3 + reprBs xs
  | .dict _ => 0
def reprBs : List PyData → Nat
  | [] => 0
  | x :: xs => reprB x + 2 + reprBs xs
end
theorem from_len : ∀ (ts : List Str) (k : Nat) (acc : Str), (textFrom k acc ts).length ≤ acc.length + piled ts
  | [], k, acc => by
    show acc.length ≤ _
    omega
  | t :: r, k, acc => by
    have h := from_len r (k + 1) (acc ++ (if k > 0 then ", " else "" : String) ++ t)
    have e : (acc ++ (if k > 0 then ", " else "" : String) ++ t).length ≤ acc.length + 2 + t.length := by
      rw [strLen_append, strLen_append]
      split
      · show acc.length + 2 + t.length ≤ _
        omega
      · show acc.length + 0 + t.length ≤ _
        omega
    show (textFrom (k + 1) _ r).length ≤ _
    rw [piled_cons]
    omega
theorem listText_le (ts : List Str) : (listText ts).length ≤ 2 + piled ts := by
  unfold listText
  rw [strLen_append]
  have h := from_len ts 0 "["
  have e1 : (("[" : String) : Str).length = 1 := rfl
  have e2 : (("]" : String) : Str).length = 1 := rfl
  omega
theorem tupleText_le (ts : List Str) : (tupleText ts).length ≤ 3 + piled ts := by
  unfold tupleText
  rw [strLen_append, strLen_append]
  have e1 : ((("(" : String) : Str)).length = 1 := rfl
  have e3 : (((if ts.length == 1 then ",)" else ")" : String) : Str)).length ≤ 2 := by split <;> decide
  by_cases h : ts = []
  · subst h
    have e4 : (Str.join ", " ([] : List Str)).length = 0 := rfl
    omega
  · have := join_length_add ts h
    omega
mutual
theorem shown_le : ∀ (d : PyData), d.canLay0 = true → d.shown.length ≤ reprB d
  | .none, _ => by decide
  | .bool b, _ => by cases b <;> decide
  | .int i, _ => by
    have := PyProof.Rows.len_str_of_int i
    show (Str.ofString (toString i)).length ≤ i.natAbs + 2
    omega
  | .str s, h => by
    rw [PyData.shown, reprB]
    have h' : PyData.strOk s = true := by simpa [PyData.canLay0] using h
    have := PySem.StrLaws.reprText_len s fun c hc => by
      unfold PyData.strOk at h'
      rw [← Array.all_toList] at h'
      have := of_decide_eq_true (List.all_eq_true.mp h' c hc)
      omega
    omega
  | .list xs, h => by
    rw [PyData.shown, reprB]
    have := listText_le (PyData.shownAll xs)
    have := shownAll_le xs (by simpa [PyData.canLay0] using h)
    omega
  | .tuple xs, h => by
    rw [PyData.shown, reprB]
    have := tupleText_le (PyData.shownAll xs)
    have := shownAll_le xs (by simpa [PyData.canLay0] using h)
    omega
  | .dict _, h => by simp [PyData.canLay0] at h
theorem shownAll_le : ∀ (ds : List PyData), PyData.canLayAll0 ds = true → piled (PyData.shownAll ds) ≤ reprBs ds
  | [], _ => by simp [PyData.shownAll, piled]
  | d :: ds, h => by
    rw [PyData.canLayAll0, Bool.and_eq_true] at h
    rw [PyData.shownAll, piled_cons, reprBs]
    have := shown_le d h.1
    have := shownAll_le ds h.2
    omega
end
theorem seq_nx {s t : CS} {ρ ρ1 : Env} (h : s ρ = some (.nx, ρ1)) : sSeq s t ρ = t ρ1 := by
  rw [ev_seq, h, seqV_nx]
theorem seq_rt {s t : CS} {ρ ρ1 : Env} {r : Val} (h : s ρ = some (.rt r, ρ1)) : sSeq s t ρ = some (.rt r, ρ1) := by
  rw [ev_seq, h, seqV_rt]
end DL

namespace K12
open PySem PySem.Spec PyProof.Rows L2 DL
def topS (i : Nat) : Stmt := PySem.Challenge.pw_settledlots_k12_whole_lots_joined_common.main.body.getD i (.Pass ⟨0, 0, 0, 0⟩)
abbrev s__law_pot : Stmt := topS 31
abbrev s__law_draw : Stmt := topS 32
abbrev s__law_pick : Stmt := topS 33
abbrev s__law_any : Stmt := topS 36
abbrev s__law_is_lot : Stmt := topS 35
abbrev s__law_lots : Stmt := topS 34
abbrev s_shared : Stmt := topS 14
abbrev s_is_rising : Stmt := topS 3
abbrev s_is_integer : Stmt := topS 1
abbrev s_is_within : Stmt := topS 2
abbrev s_are_counts_below : Stmt := topS 4
abbrev s_is_lot_of : Stmt := topS 12
abbrev s_want_lot : Stmt := topS 20
abbrev s_want_many : Stmt := topS 19
abbrev s_want_other : Stmt := topS 21
abbrev s_want_two : Stmt := topS 22
abbrev s_common : Stmt := topS 27
abbrev s_is_part : Stmt := topS 16
abbrev s_is_within_lot : Stmt := topS 25
abbrev s_both : Stmt := topS 13
abbrev s_joined : Stmt := topS 26
abbrev s_left_out : Stmt := topS 15
abbrev s_less : Stmt := topS 28
abbrev s_rest_of : Stmt := topS 17
abbrev s_rest : Stmt := topS 29
abbrev s__law_two_right : Stmt := topS 37
abbrev s_is_lot : Stmt := topS 23
abbrev s_all_lots : Stmt := topS 18
abbrev s_lots : Stmt := topS 24
abbrev s__law_right : Stmt := topS 38
abbrev s_law : Stmt := topS 39
/-! ### the senses -/
def c__law_pot : CS :=
    (sSeq (sSet [] [] 2 (cIf (cTst (cOp2 gLt (cVar 1) (cFn gLen (cCons (cVar 0) cNil)))) (cFn gAbs (cCons (cOp2 gIx (cVar 0) (cVar 1)) cNil)) (cOp2 gAdd (cOp2 gMul (cCst (.int 1935)) (cVar 1)) (cCst (.int 1239)))))
    (sSeq (sRet [] (cLst (cCons (cFn gMax2 (cCons (cCst (.int 0)) (cCons (cOp2 gSub (cVar 2) (cOp2 gPow (cCst (.int 10)) (cCst (.int 18)))) cNil))) (cCons (cOp2 gAdd (cOp2 gMod (cFn gInt (cCons (cOp2 gAdd (cOp2 gAdd (cOp2 gMul (cOp2 gMod (cFn gInt (cCons (cVar 2) cNil)) (cCst (.int 2147483549))) (cCst (.int 40915))) (cOp2 gMul (cCst (.int 1935)) (cVar 1))) (cCst (.int 1239))) cNil)) (cCst (.int 2147483563))) (cCst (.int 1))) cNil))))
    sNx))
def f__law_pot : FE := fnSem 2 3 [] c__law_pot
def c__law_draw : CS :=
    (sSeq (sIf (cTst (cOp2 gGt (cOp2 gIx (cVar 0) (cCst (.int 0))) (cCst (.int 0)))) (sSeq (sTo (cFn gDvm (cCons (cOp2 gIx (cVar 0) (cCst (.int 0))) (cCons (cVar 1) cNil))) (gTu [(gAt 0 (cCst (.int 0))), (gN [0] 2)]))
    (sSeq (sRet [0] (cVar 2))
    sNx)) sNx)
    (sSeq (sTo (cOp2 gMod (cFn gInt (cCons (cOp2 gAdd (cOp2 gMul (cOp2 gIx (cVar 0) (cCst (.int 1))) (cCst (.int 40295))) (cCst (.int 1465))) cNil)) (cCst (.int 2147483587))) (gAt 0 (cCst (.int 1))))
    (sSeq (sRet [0] (cOp2 gMod (cFn gInt (cCons (cOp2 gFdv (cOp2 gMod (cFn gInt (cCons (cOp2 gMul (cOp2 gIx (cVar 0) (cCst (.int 1))) (cOp2 gIx (cVar 0) (cCst (.int 1)))) cNil)) (cCst (.int 2147483563))) (cCst (.int 29))) cNil)) (cVar 1)))
    sNx)))
def f__law_draw : FE := fnSem 2 3 [0] c__law_draw
def c__law_pick : CS :=
    (sSeq (sRet [0] (cOp2 gIx (cVar 1) (cCall 2 f__law_draw [true, false] (cCons (cVar 0) (cCons (cFn gLen (cCons (cVar 1) cNil)) cNil)))))
    sNx)
def f__law_pick : FE := fnSem 2 2 [0] c__law_pick
def c__law_any : CS :=
    (sSeq (sSet [0] [0] 2 (cFn gTuple (cCons (cLC [3] (cRng (cCons (cCall 2 f__law_draw [true, false] (cCons (cVar 0) (cCons (cCst (.int 4)) cNil))) cNil)) (.name 3) cYes (cOp2 gSub (cCall 2 f__law_draw [true, false] (cCons (cVar 0) (cCons (cOp2 gAdd (cVar 1) (cCst (.int 2))) cNil))) (cCst (.int 1)))) cNil)))
    (sSeq (sRet [0] (cCall 2 f__law_pick [true, false] (cCons (cVar 0) (cCons (cLst (cCons (cVar 2) (cCons (cFn gTuple (cCons (cOp1 gSS (cVar 2)) cNil)) (cCons (cFn gList (cCons (cVar 2) cNil)) (cCons (cOp2 gAdd (cVar 2) (cTup (cCons (cCst (.bool true)) cNil))) (cCons (cOp2 gAdd (cTup (cCons (cCst (.bool false)) cNil)) (cVar 2)) (cCons (cOp2 gAdd (cVar 2) (cTup (cCons (cCst .none) cNil))) (cCons (cOp2 gAdd (cVar 2) (cTup (cCons (cCst (.str "0")) cNil))) (cCons (cOp2 gMul (cVar 2) (cCst (.int 2))) (cCons (cTup cNil) (cCons (cCst .none) (cCons (cCst (.int 0)) (cCons (cCst (.str "0")) (cCons (cCst (.dict [])) (cCons (cTup (cCons (cVar 2) cNil)) cNil))))))))))))))) cNil))))
    sNx))
def f__law_any : FE := fnSem 2 4 [0] c__law_any
def c__law_is_lot : CS :=
    (sSeq (sIf (tOrT (tNotT (cTst (cOp1 (gIsi "tuple") (cVar 1)))) (tNotT (cTst (cFn gAll (cCons (cLC [4] (cSeq (cVar 1)) (.name 4) cYes (cAnd (cOp1 (gIsi "int") (cVar 4)) (cAnd (cNot (cOp1 (gIsi "bool") (cVar 4))) (cChain gLe gLt (cCst (.int 0)) (cVar 4) (cVar 0))))) cNil))))) (sSeq (sRet [] (cCst (.bool false)))
    sNx) sNx)
    (sSeq (sRet [] (cFn gAll (cCons (cLC [2, 3] (cZip (cCons (cVar 1) (cCons (cSl (cVar 1) (oSo (cCst (.int 1))) oNo) cNil))) (.tup [2, 3]) cYes (cOp2 gLt (cVar 2) (cVar 3))) cNil)))
    sNx))
def f__law_is_lot : FE := fnSem 2 5 [] c__law_is_lot
def c__law_lots : CS :=
    (sSeq (sSet [] [] 1 (cLst (cCons (cTup cNil) cNil)))
    (sSeq (sFor (cRng (cCons (cVar 0) cNil)) (gN [] 2) (sSeq (sSet [] [] 1 (cOp2 gAdd (cVar 1) (cLC [3] (cSeq (cVar 1)) (.name 3) cYes (cOp2 gAdd (cVar 3) (cTup (cCons (cVar 2) cNil))))))
    sNx))
    (sSeq (sRet [] (cFn gSorted (cCons (cVar 1) cNil)))
    sNx)))
def f__law_lots : FE := fnSem 1 4 [] c__law_lots
def c_shared : CS :=
    (sSeq (sRet [] (cFn gTuple (cCons (cLC [2] (cSeq (cVar 0)) (.name 2) (cTst (cOp2 (gIn false) (cVar 2) (cVar 1))) (cVar 2)) cNil)))
    sNx)
def f_shared : FE := fnSem 2 3 [] c_shared
def c_is_rising : CS :=
    (sSeq (sRet [] (cFn gAll (cCons (cLC [1, 2] (cZip (cCons (cVar 0) (cCons (cSl (cVar 0) (oSo (cCst (.int 1))) oNo) cNil))) (.tup [1, 2]) cYes (cOp2 gLt (cVar 1) (cVar 2))) cNil)))
    sNx)
def f_is_rising : FE := fnSem 1 3 [] c_is_rising
def c_is_integer : CS :=
    (sSeq (sRet [] (cAnd (cOp1 (gIsi "int") (cVar 0)) (cNot (cOp1 (gIsi "bool") (cVar 0)))))
    sNx)
def f_is_integer : FE := fnSem 1 1 [] c_is_integer
def c_is_within : CS :=
    (sSeq (sRet [] (cAnd (cCall 1 f_is_integer [false] (cCons (cVar 0) cNil)) (cChain gLe gLe (cVar 1) (cVar 0) (cVar 2))))
    sNx)
def f_is_within : FE := fnSem 3 3 [] c_is_within
def c_are_counts_below : CS :=
    (sSeq (sRet [] (cAnd (cOp1 (gIsi "tuple") (cVar 0)) (cAnd (cFn gAll (cCons (cLC [2] (cSeq (cVar 0)) (.name 2) cYes (cCall 3 f_is_within [false, false, false] (cCons (cVar 2) (cCons (cCst (.int 0)) (cCons (cOp2 gSub (cVar 1) (cCst (.int 1))) cNil))))) cNil)) (cCall 1 f_is_rising [false] (cCons (cVar 0) cNil)))))
    sNx)
def f_are_counts_below : FE := fnSem 2 3 [] c_are_counts_below
def c_is_lot_of : CS :=
    (sSeq (sRet [] (cCall 2 f_are_counts_below [false, false] (cCons (cVar 1) (cCons (cVar 0) cNil))))
    sNx)
def f_is_lot_of : FE := fnSem 2 2 [] c_is_lot_of
def c_want_lot : CS :=
    (sSeq (sIf (tNotT (cTst (cCall 2 f_is_lot_of [false, false] (cCons (cVar 0) (cCons (cVar 1) cNil))))) (sSeq sNo
    sNx) sNx)
    (sSeq (sRet [] (cVar 1))
    sNx))
def f_want_lot : FE := fnSem 2 2 [] c_want_lot
def c_want_many : CS :=
    (sSeq (sIf (tNotT (cTst (cCall 3 f_is_within [false, false, false] (cCons (cVar 0) (cCons (cCst (.int 1)) (cCons (cCst (.int 9)) cNil)))))) (sSeq sNo
    sNx) sNx)
    (sSeq (sRet [] (cVar 0))
    sNx))
def f_want_many : FE := fnSem 1 1 [] c_want_many
def c_want_other : CS :=
    (sSeq (sIf (tNotT (cTst (cCall 2 f_is_lot_of [false, false] (cCons (cVar 0) (cCons (cVar 1) cNil))))) (sSeq sNo
    sNx) sNx)
    (sSeq (sRet [] (cVar 1))
    sNx))
def f_want_other : FE := fnSem 2 2 [] c_want_other
def c_want_two : CS :=
    (sSeq (sEx (cCall 2 f_want_lot [false, false] (cCons (cCall 1 f_want_many [false] (cCons (cVar 0) cNil)) (cCons (cVar 1) cNil))))
    (sSeq (sEx (cCall 2 f_want_other [false, false] (cCons (cVar 0) (cCons (cVar 2) cNil))))
    sNx))
def f_want_two : FE := fnSem 3 3 [] c_want_two
def c_common : CS :=
    (sSeq (sEx (cCall 3 f_want_two [false, false, false] (cCons (cVar 0) (cCons (cVar 1) (cCons (cVar 2) cNil)))))
    (sSeq (sRet [] (cCall 2 f_shared [false, false] (cCons (cVar 1) (cCons (cVar 2) cNil))))
    sNx))
def f_common : FE := fnSem 3 3 [] c_common
def c_is_part : CS :=
    (sSeq (sRet [] (cFn gAll (cCons (cLC [2] (cSeq (cVar 0)) (.name 2) cYes (cOp2 (gIn false) (cVar 2) (cVar 1))) cNil)))
    sNx)
def f_is_part : FE := fnSem 2 3 [] c_is_part
def c_is_within_lot : CS :=
    (sSeq (sEx (cCall 3 f_want_two [false, false, false] (cCons (cVar 0) (cCons (cVar 1) (cCons (cVar 2) cNil)))))
    (sSeq (sRet [] (cCall 2 f_is_part [false, false] (cCons (cVar 1) (cCons (cVar 2) cNil))))
    sNx))
def f_is_within_lot : FE := fnSem 3 3 [] c_is_within_lot
def c_both : CS :=
    (sSeq (sRet [] (cFn gTuple (cCons (cOp1 gSS (cOp2 gAdd (cVar 0) (cVar 1))) cNil)))
    sNx)
def f_both : FE := fnSem 2 2 [] c_both
def c_joined : CS :=
    (sSeq (sEx (cCall 3 f_want_two [false, false, false] (cCons (cVar 0) (cCons (cVar 1) (cCons (cVar 2) cNil)))))
    (sSeq (sRet [] (cCall 2 f_both [false, false] (cCons (cVar 1) (cCons (cVar 2) cNil))))
    sNx))
def f_joined : FE := fnSem 3 3 [] c_joined
def c_left_out : CS :=
    (sSeq (sRet [] (cFn gTuple (cCons (cLC [2] (cSeq (cVar 0)) (.name 2) (cTst (cOp2 (gIn true) (cVar 2) (cVar 1))) (cVar 2)) cNil)))
    sNx)
def f_left_out : FE := fnSem 2 3 [] c_left_out
def c_less : CS :=
    (sSeq (sEx (cCall 3 f_want_two [false, false, false] (cCons (cVar 0) (cCons (cVar 1) (cCons (cVar 2) cNil)))))
    (sSeq (sRet [] (cCall 2 f_left_out [false, false] (cCons (cVar 1) (cCons (cVar 2) cNil))))
    sNx))
def f_less : FE := fnSem 3 3 [] c_less
def c_rest_of : CS :=
    (sSeq (sRet [] (cFn gTuple (cCons (cLC [2] (cRng (cCons (cVar 0) cNil)) (.name 2) (cTst (cOp2 (gIn true) (cVar 2) (cVar 1))) (cVar 2)) cNil)))
    sNx)
def f_rest_of : FE := fnSem 2 3 [] c_rest_of
def c_rest : CS :=
    (sSeq (sRet [] (cCall 2 f_rest_of [false, false] (cCons (cCall 1 f_want_many [false] (cCons (cVar 0) cNil)) (cCons (cCall 2 f_want_lot [false, false] (cCons (cVar 0) (cCons (cVar 1) cNil))) cNil))))
    sNx)
def f_rest : FE := fnSem 2 2 [] c_rest
def c__law_two_right : CS :=
    (sSeq (sSet [] [] 3 (cFn gTuple (cCons (cLC [9] (cRng (cCons (cVar 0) cNil)) (.name 9) (tOrT (cTst (cOp2 (gIn false) (cVar 9) (cVar 1))) (cTst (cOp2 (gIn false) (cVar 9) (cVar 2)))) (cVar 9)) cNil)))
    (sSeq (sSet [] [] 4 (cFn gTuple (cCons (cLC [9] (cSeq (cVar 1)) (.name 9) (cTst (cOp2 (gIn false) (cVar 9) (cVar 2))) (cVar 9)) cNil)))
    (sSeq (sSet [] [] 5 (cFn gTuple (cCons (cLC [9] (cSeq (cVar 1)) (.name 9) (cTst (cOp2 (gIn true) (cVar 9) (cVar 2))) (cVar 9)) cNil)))
    (sSeq (sSet [] [] 6 (cLst (cCons (cCall 3 f_joined [false, false, false] (cCons (cVar 0) (cCons (cVar 1) (cCons (cVar 2) cNil)))) (cCons (cCall 3 f_common [false, false, false] (cCons (cVar 0) (cCons (cVar 1) (cCons (cVar 2) cNil)))) (cCons (cCall 3 f_less [false, false, false] (cCons (cVar 0) (cCons (cVar 1) (cCons (cVar 2) cNil)))) (cCons (cCall 3 f_is_within_lot [false, false, false] (cCons (cVar 0) (cCons (cVar 1) (cCons (cVar 2) cNil)))) cNil))))))
    (sSeq (sSet [] [] 7 (cLst (cCons (cCallK 3 f_joined [false, false, false] ["many", "lot", "other"] ["other", "lot", "many"] cNil (cCons (cVar 2) (cCons (cVar 1) (cCons (cVar 0) cNil)))) (cCons (cCallK 3 f_common [false, false, false] ["many", "lot", "other"] ["other", "lot", "many"] cNil (cCons (cVar 2) (cCons (cVar 1) (cCons (cVar 0) cNil)))) (cCons (cCallK 3 f_less [false, false, false] ["many", "lot", "other"] ["other", "lot", "many"] cNil (cCons (cVar 2) (cCons (cVar 1) (cCons (cVar 0) cNil)))) (cCons (cCallK 3 f_is_within_lot [false, false, false] ["many", "lot", "other"] ["other", "lot", "many"] cNil (cCons (cVar 2) (cCons (cVar 1) (cCons (cVar 0) cNil)))) cNil))))))
    (sSeq (sSet [] [] 8 (cLst (cCons (cVar 3) (cCons (cVar 4) (cCons (cVar 5) (cCons (cOp2 gEq (cVar 5) (cTup cNil)) cNil))))))
    (sSeq (sIf (tOrT (cTst (cOp2 gNe (cFn gRepr (cCons (cLst (cCons (cVar 6) (cCons (cVar 7) cNil))) cNil)) (cFn gRepr (cCons (cLst (cCons (cVar 8) (cCons (cVar 8) cNil))) cNil)))) (tOrT (cTst (cOp2 gNe (cCall 3 f_joined [false, false, false] (cCons (cVar 0) (cCons (cVar 2) (cCons (cVar 1) cNil)))) (cVar 3))) (cTst (cOp2 gNe (cCall 3 f_common [false, false, false] (cCons (cVar 0) (cCons (cVar 2) (cCons (cVar 1) cNil)))) (cVar 4))))) (sSeq (sRet [] (cCst (.bool false)))
    sNx) sNx)
    (sSeq (sIf (tOrT (cTst (cOp2 gNe (cCall 3 f_joined [false, false, false] (cCons (cVar 0) (cCons (cCall 3 f_less [false, false, false] (cCons (cVar 0) (cCons (cVar 1) (cCons (cVar 2) cNil)))) (cCons (cCall 3 f_less [false, false, false] (cCons (cVar 0) (cCons (cVar 2) (cCons (cVar 1) cNil)))) cNil)))) (cCall 3 f_less [false, false, false] (cCons (cVar 0) (cCons (cVar 3) (cCons (cVar 4) cNil)))))) (cTst (cOp2 gNe (cCall 2 f_rest [false, false] (cCons (cVar 0) (cCons (cCall 2 f_rest [false, false] (cCons (cVar 0) (cCons (cVar 1) cNil))) cNil))) (cVar 1)))) (sSeq (sRet [] (cCst (.bool false)))
    sNx) sNx)
    (sSeq (sRet [] (cAnd (cOp2 gEq (cCall 2 f_rest [false, false] (cCons (cVar 0) (cCons (cVar 3) cNil))) (cCall 3 f_common [false, false, false] (cCons (cVar 0) (cCons (cCall 2 f_rest [false, false] (cCons (cVar 0) (cCons (cVar 1) cNil))) (cCons (cCall 2 f_rest [false, false] (cCons (cVar 0) (cCons (cVar 2) cNil))) cNil))))) (cOp2 gEq (cCallK 2 f_rest [false, false] ["many", "lot"] ["lot", "many"] cNil (cCons (cVar 4) (cCons (cVar 0) cNil))) (cCall 3 f_joined [false, false, false] (cCons (cVar 0) (cCons (cCall 2 f_rest [false, false] (cCons (cVar 0) (cCons (cVar 1) cNil))) (cCons (cCall 2 f_rest [false, false] (cCons (cVar 0) (cCons (cVar 2) cNil))) cNil)))))))
    sNx)))))))))
def f__law_two_right : FE := fnSem 3 10 [] c__law_two_right
def c_is_lot : CS :=
    (sSeq (sRet [] (cCall 2 f_is_lot_of [false, false] (cCons (cCall 1 f_want_many [false] (cCons (cVar 0) cNil)) (cCons (cVar 1) cNil))))
    sNx)
def f_is_lot : FE := fnSem 2 2 [] c_is_lot
def c_all_lots : CS :=
    (sSeq (sSet [] [] 1 (cLst (cCons (cTup cNil) cNil)))
    (sSeq (sFor (cRng (cCons (cVar 0) cNil)) (gN [] 2) (sSeq (sSet [] [] 1 (cOp2 gAdd (cVar 1) (cLC [3] (cSeq (cVar 1)) (.name 3) cYes (cOp2 gAdd (cVar 3) (cTup (cCons (cVar 2) cNil))))))
    sNx))
    (sSeq (sRet [] (cFn gSorted (cCons (cVar 1) cNil)))
    sNx)))
def f_all_lots : FE := fnSem 1 4 [] c_all_lots
def c_lots : CS :=
    (sSeq (sRet [] (cCall 1 f_all_lots [false] (cCons (cCall 1 f_want_many [false] (cCons (cVar 0) cNil)) cNil)))
    sNx)
def f_lots : FE := fnSem 1 1 [] c_lots
def c__law_right : CS :=
    (sSeq (sSet [0] [0] 1 (cOp2 gAdd (cCst (.int 1)) (cCall 2 f__law_draw [true, false] (cCons (cVar 0) (cCons (cCst (.int 9)) cNil)))))
    (sSeq (sSet [0] [0] 2 (cCall 1 f__law_lots [false] (cCons (cVar 1) cNil)))
    (sSeq (sIf (tOrT (cTst (cOp2 gNe (cCall 1 f_lots [false] (cCons (cVar 1) cNil)) (cVar 2))) (tOrT (cTst (cOp2 gNe (cCallK 1 f_lots [false] ["many"] ["many"] cNil (cCons (cVar 1) cNil)) (cFn gSorted (cCons (cVar 2) cNil)))) (cTst (cOp2 gNe (cFn gLen (cCons (cCall 1 f_lots [false] (cCons (cVar 1) cNil)) cNil)) (cOp2 gIx (cLst (cCons (cCst (.int 1)) (cCons (cCst (.int 2)) (cCons (cCst (.int 4)) (cCons (cCst (.int 8)) (cCons (cCst (.int 16)) (cCons (cCst (.int 32)) (cCons (cCst (.int 64)) (cCons (cCst (.int 128)) (cCons (cCst (.int 256)) (cCons (cCst (.int 512)) cNil))))))))))) (cVar 1)))))) (sSeq (sRet [0] (cCst (.bool false)))
    sNx) sNx)
    (sSeq (sFor (cRng (cCons (cCst (.int 12)) cNil)) (gN [0] 3) (sSeq (sPar [0] [0] [4, 5] (cCons (cCall 2 f__law_pick [true, false] (cCons (cVar 0) (cCons (cVar 2) cNil))) (cCons (cCall 2 f__law_pick [true, false] (cCons (cVar 0) (cCons (cVar 2) cNil))) cNil)))
    (sSeq (sIf (tOrT (tNotT (cTst (cCall 3 f__law_two_right [false, false, false] (cCons (cVar 1) (cCons (cVar 4) (cCons (cVar 5) cNil)))))) (tNotT (cTst (cCall 3 f__law_two_right [false, false, false] (cCons (cVar 1) (cCons (cVar 4) (cCons (cVar 4) cNil))))))) (sSeq (sRet [0] (cCst (.bool false)))
    sNx) sNx)
    (sSeq (sSet [0] [0] 6 (cCall 2 f__law_any [true, false] (cCons (cVar 0) (cCons (cVar 1) cNil))))
    (sSeq (sIf (cTst (cOp2 gNe (cLst (cCons (cCall 2 f_is_lot [false, false] (cCons (cVar 1) (cCons (cVar 6) cNil))) (cCons (cCallK 2 f_is_lot [false, false] ["many", "value"] ["value", "many"] cNil (cCons (cVar 6) (cCons (cVar 1) cNil))) (cCons (cCall 2 f_is_lot [false, false] (cCons (cVar 1) (cCons (cVar 4) cNil))) (cCons (cCall 2 f_is_lot [false, false] (cCons (cCst (.int 9)) (cCons (cVar 4) cNil))) cNil))))) (cOp2 gAdd (cOp2 gMul (cLst (cCons (cCall 2 f__law_is_lot [false, false] (cCons (cVar 1) (cCons (cVar 6) cNil))) cNil)) (cCst (.int 2))) (cLst (cCons (cCst (.bool true)) (cCons (cCst (.bool true)) cNil)))))) (sSeq (sRet [0] (cCst (.bool false)))
    sNx) sNx)
    sNx)))))
    (sSeq (sRet [0] (cCst (.bool true)))
    sNx)))))
def f__law_right : FE := fnSem 1 7 [0] c__law_right
def c_law : CS :=
    (sSeq (sRet [] (cFn gAll (cCons (cLC [1] (cRng (cCons (cFn gMax2 (cCons (cCst (.int 1)) (cCons (cFn gMin2 (cCons (cCst (.int 2)) (cCons (cFn gLen (cCons (cVar 0) cNil)) cNil))) cNil))) cNil)) (.name 1) cYes (cCall 1 f__law_right [true] (cCons (cCall 2 f__law_pot [false, false] (cCons (cVar 0) (cCons (cVar 1) cNil))) cNil))) cNil)))
    sNx)
def f_law : FE := fnSem 1 2 [] c_law
/-! ### the top -/
structure Top (K : PySem.W.Frag) (mg : Str → Option Value) where
  a__law_pot : Addr
  d__law_pot : FuncData
  F__law_pot : L2.Fun K "_law_pot" "_law_pot" s__law_pot a__law_pot d__law_pot
  m__law_pot : mg "_law_pot" = some (.ref a__law_pot)
  a__law_draw : Addr
  d__law_draw : FuncData
  F__law_draw : L2.Fun K "_law_draw" "_law_draw" s__law_draw a__law_draw d__law_draw
  m__law_draw : mg "_law_draw" = some (.ref a__law_draw)
  a__law_pick : Addr
  d__law_pick : FuncData
  F__law_pick : L2.Fun K "_law_pick" "_law_pick" s__law_pick a__law_pick d__law_pick
  m__law_pick : mg "_law_pick" = some (.ref a__law_pick)
  a__law_any : Addr
  d__law_any : FuncData
  F__law_any : L2.Fun K "_law_any" "_law_any" s__law_any a__law_any d__law_any
  m__law_any : mg "_law_any" = some (.ref a__law_any)
  a__law_is_lot : Addr
  d__law_is_lot : FuncData
  F__law_is_lot : L2.Fun K "_law_is_lot" "_law_is_lot" s__law_is_lot a__law_is_lot d__law_is_lot
  m__law_is_lot : mg "_law_is_lot" = some (.ref a__law_is_lot)
  a__law_lots : Addr
  d__law_lots : FuncData
  F__law_lots : L2.Fun K "_law_lots" "_law_lots" s__law_lots a__law_lots d__law_lots
  m__law_lots : mg "_law_lots" = some (.ref a__law_lots)
  a_shared : Addr
  d_shared : FuncData
  F_shared : L2.Fun K "shared" "shared" s_shared a_shared d_shared
  m_shared : mg "shared" = some (.ref a_shared)
  a_is_rising : Addr
  d_is_rising : FuncData
  F_is_rising : L2.Fun K "is_rising" "is_rising" s_is_rising a_is_rising d_is_rising
  m_is_rising : mg "is_rising" = some (.ref a_is_rising)
  a_is_integer : Addr
  d_is_integer : FuncData
  F_is_integer : L2.Fun K "is_integer" "is_integer" s_is_integer a_is_integer d_is_integer
  m_is_integer : mg "is_integer" = some (.ref a_is_integer)
  a_is_within : Addr
  d_is_within : FuncData
  F_is_within : L2.Fun K "is_within" "is_within" s_is_within a_is_within d_is_within
  m_is_within : mg "is_within" = some (.ref a_is_within)
  a_are_counts_below : Addr
  d_are_counts_below : FuncData
  F_are_counts_below : L2.Fun K "are_counts_below" "are_counts_below" s_are_counts_below a_are_counts_below d_are_counts_below
  m_are_counts_below : mg "are_counts_below" = some (.ref a_are_counts_below)
  a_is_lot_of : Addr
  d_is_lot_of : FuncData
  F_is_lot_of : L2.Fun K "is_lot_of" "is_lot_of" s_is_lot_of a_is_lot_of d_is_lot_of
  m_is_lot_of : mg "is_lot_of" = some (.ref a_is_lot_of)
  a_want_lot : Addr
  d_want_lot : FuncData
  F_want_lot : L2.Fun K "want_lot" "want_lot" s_want_lot a_want_lot d_want_lot
  m_want_lot : mg "want_lot" = some (.ref a_want_lot)
  a_want_many : Addr
  d_want_many : FuncData
  F_want_many : L2.Fun K "want_many" "want_many" s_want_many a_want_many d_want_many
  m_want_many : mg "want_many" = some (.ref a_want_many)
  a_want_other : Addr
  d_want_other : FuncData
  F_want_other : L2.Fun K "want_other" "want_other" s_want_other a_want_other d_want_other
  m_want_other : mg "want_other" = some (.ref a_want_other)
  a_want_two : Addr
  d_want_two : FuncData
  F_want_two : L2.Fun K "want_two" "want_two" s_want_two a_want_two d_want_two
  m_want_two : mg "want_two" = some (.ref a_want_two)
  a_common : Addr
  d_common : FuncData
  F_common : L2.Fun K "common" "common" s_common a_common d_common
  m_common : mg "common" = some (.ref a_common)
  a_is_part : Addr
  d_is_part : FuncData
  F_is_part : L2.Fun K "is_part" "is_part" s_is_part a_is_part d_is_part
  m_is_part : mg "is_part" = some (.ref a_is_part)
  a_is_within_lot : Addr
  d_is_within_lot : FuncData
  F_is_within_lot : L2.Fun K "is_within_lot" "is_within_lot" s_is_within_lot a_is_within_lot d_is_within_lot
  m_is_within_lot : mg "is_within_lot" = some (.ref a_is_within_lot)
  a_both : Addr
  d_both : FuncData
  F_both : L2.Fun K "both" "both" s_both a_both d_both
  m_both : mg "both" = some (.ref a_both)
  a_joined : Addr
  d_joined : FuncData
  F_joined : L2.Fun K "joined" "joined" s_joined a_joined d_joined
  m_joined : mg "joined" = some (.ref a_joined)
  a_left_out : Addr
  d_left_out : FuncData
  F_left_out : L2.Fun K "left_out" "left_out" s_left_out a_left_out d_left_out
  m_left_out : mg "left_out" = some (.ref a_left_out)
  a_less : Addr
  d_less : FuncData
  F_less : L2.Fun K "less" "less" s_less a_less d_less
  m_less : mg "less" = some (.ref a_less)
  a_rest_of : Addr
  d_rest_of : FuncData
  F_rest_of : L2.Fun K "rest_of" "rest_of" s_rest_of a_rest_of d_rest_of
  m_rest_of : mg "rest_of" = some (.ref a_rest_of)
  a_rest : Addr
  d_rest : FuncData
  F_rest : L2.Fun K "rest" "rest" s_rest a_rest d_rest
  m_rest : mg "rest" = some (.ref a_rest)
  a__law_two_right : Addr
  d__law_two_right : FuncData
  F__law_two_right : L2.Fun K "_law_two_right" "_law_two_right" s__law_two_right a__law_two_right d__law_two_right
  m__law_two_right : mg "_law_two_right" = some (.ref a__law_two_right)
  a_is_lot : Addr
  d_is_lot : FuncData
  F_is_lot : L2.Fun K "is_lot" "is_lot" s_is_lot a_is_lot d_is_lot
  m_is_lot : mg "is_lot" = some (.ref a_is_lot)
  a_all_lots : Addr
  d_all_lots : FuncData
  F_all_lots : L2.Fun K "all_lots" "all_lots" s_all_lots a_all_lots d_all_lots
  m_all_lots : mg "all_lots" = some (.ref a_all_lots)
  a_lots : Addr
  d_lots : FuncData
  F_lots : L2.Fun K "lots" "lots" s_lots a_lots d_lots
  m_lots : mg "lots" = some (.ref a_lots)
  a__law_right : Addr
  d__law_right : FuncData
  F__law_right : L2.Fun K "_law_right" "_law_right" s__law_right a__law_right d__law_right
  m__law_right : mg "_law_right" = some (.ref a__law_right)
  a_law : Addr
  d_law : FuncData
  F_law : L2.Fun K "law" "law" s_law a_law d_law
  m_law : mg "law" = some (.ref a_law)
  z_abs : mg "abs" = none
  z_all : mg "all" = none
  z_bool : mg "bool" = none
  z_divmod : mg "divmod" = none
  z_int : mg "int" = none
  z_isinstance : mg "isinstance" = none
  z_len : mg "len" = none
  z_list : mg "list" = none
  z_max : mg "max" = none
  z_min : mg "min" = none
  z_range : mg "range" = none
  z_repr : mg "repr" = none
  z_set : mg "set" = none
  z_sorted : mg "sorted" = none
  z_tuple : mg "tuple" = none
  z_zip : mg "zip" = none
  g_MOST_COLUMNS : ∃ t, mg "MOST_COLUMNS" = some (.int 9 t)
section
variable {P : Program} {w : World} {K : PySem.W.Frag} {mg : Str → Option Value} {base : Heap} {X : Cx}
theorem boot_abs : bootBuiltins "abs" = some (.builtin "abs") := by decide +kernel
theorem Top.b_abs (T : Top X.K X.mg) (g : Gl X "abs") : Blt X "abs" (.builtin "abs") := ⟨g, T.z_abs, boot_abs⟩
theorem boot_all : bootBuiltins "all" = some (.builtin "all") := by decide +kernel
theorem Top.b_all (T : Top X.K X.mg) (g : Gl X "all") : Blt X "all" (.builtin "all") := ⟨g, T.z_all, boot_all⟩
theorem boot_bool : bootBuiltins "bool" = some (.type "bool") := by decide +kernel
theorem Top.b_bool (T : Top X.K X.mg) (g : Gl X "bool") : Blt X "bool" (.type "bool") := ⟨g, T.z_bool, boot_bool⟩
theorem boot_divmod : bootBuiltins "divmod" = some (.builtin "divmod") := by decide +kernel
theorem Top.b_divmod (T : Top X.K X.mg) (g : Gl X "divmod") : Blt X "divmod" (.builtin "divmod") := ⟨g, T.z_divmod, boot_divmod⟩
theorem boot_int : bootBuiltins "int" = some (.type "int") := by decide +kernel
theorem Top.b_int (T : Top X.K X.mg) (g : Gl X "int") : Blt X "int" (.type "int") := ⟨g, T.z_int, boot_int⟩
theorem boot_isinstance : bootBuiltins "isinstance" = some (.builtin "isinstance") := by decide +kernel
theorem Top.b_isinstance (T : Top X.K X.mg) (g : Gl X "isinstance") : Blt X "isinstance" (.builtin "isinstance") := ⟨g, T.z_isinstance, boot_isinstance⟩
theorem boot_len : bootBuiltins "len" = some (.builtin "len") := by decide +kernel
theorem Top.b_len (T : Top X.K X.mg) (g : Gl X "len") : Blt X "len" (.builtin "len") := ⟨g, T.z_len, boot_len⟩
theorem boot_list : bootBuiltins "list" = some (.type "list") := by decide +kernel
theorem Top.b_list (T : Top X.K X.mg) (g : Gl X "list") : Blt X "list" (.type "list") := ⟨g, T.z_list, boot_list⟩
theorem boot_max : bootBuiltins "max" = some (.builtin "max") := by decide +kernel
theorem Top.b_max (T : Top X.K X.mg) (g : Gl X "max") : Blt X "max" (.builtin "max") := ⟨g, T.z_max, boot_max⟩
theorem boot_min : bootBuiltins "min" = some (.builtin "min") := by decide +kernel
theorem Top.b_min (T : Top X.K X.mg) (g : Gl X "min") : Blt X "min" (.builtin "min") := ⟨g, T.z_min, boot_min⟩
theorem boot_repr : bootBuiltins "repr" = some (.builtin "repr") := by decide +kernel
theorem Top.b_repr (T : Top X.K X.mg) (g : Gl X "repr") : Blt X "repr" (.builtin "repr") := ⟨g, T.z_repr, boot_repr⟩
theorem boot_set : bootBuiltins "set" = some (.type "set") := by decide +kernel
theorem Top.b_set (T : Top X.K X.mg) (g : Gl X "set") : Blt X "set" (.type "set") := ⟨g, T.z_set, boot_set⟩
theorem boot_sorted : bootBuiltins "sorted" = some (.builtin "sorted") := by decide +kernel
theorem Top.b_sorted (T : Top X.K X.mg) (g : Gl X "sorted") : Blt X "sorted" (.builtin "sorted") := ⟨g, T.z_sorted, boot_sorted⟩
theorem boot_tuple : bootBuiltins "tuple" = some (.type "tuple") := by decide +kernel
theorem Top.b_tuple (T : Top X.K X.mg) (g : Gl X "tuple") : Blt X "tuple" (.type "tuple") := ⟨g, T.z_tuple, boot_tuple⟩
theorem sc__law_pot : FnScope ["script", "k", "cell"] ["script", "k"] (defScope s__law_pot) := ⟨rfl, rfl, rfl, by decide +kernel, rfl, by decide +kernel, by decide +kernel⟩
theorem simple__law_pot (T : Top K mg) : Simple T.d__law_pot ["script", "k"] := simple_of T.F__law_pot rfl rfl rfl rfl rfl
theorem ok__law_pot (T : Top K mg) : FnG P w K mg base 1 T.a__law_pot T.d__law_pot ["script", "k"] (spD K 2 f__law_pot) := by
  have sc := sc__law_pot
  refine fnG_of (k := 0) T.F__law_pot sc rfl rfl (by decide) fun cdv A outer s H E hr => ?_
  have hg := hr.gd
  have hu := hu64 hr
  have hv := hu65 hr
  exact (dss_cons (ds_set (i := 2) sc.nd rfl (by first | exact .inl rfl | exact .inr rfl) (.inl rfl) (de_if (dt_lt  (dv 1 rfl (by first | exact .inl rfl | exact .inr (.inl rfl) | exact .inr (.inr rfl))) (de_len (T.b_len (by rfl)) (das_cons (dv 0 rfl (by first | exact .inl rfl | exact .inr (.inl rfl) | exact .inr (.inr rfl))) das_nil rfl) rfl rfl)) (de_abs (T.b_abs (by rfl)) (das_cons (de_at (fun _ _ => rfl) (dv 0 rfl (by first | exact .inl rfl | exact .inr (.inl rfl) | exact .inr (.inr rfl))) (dv 1 rfl (by first | exact .inl rfl | exact .inr (.inl rfl) | exact .inr (.inr rfl)))) das_nil rfl) rfl rfl) (de_add (de_mul de_int (dv 1 rfl (by first | exact .inl rfl | exact .inr (.inl rfl) | exact .inr (.inr rfl)))) de_int)) rfl)
    (dss_cons (ds_ret (de_lst (das_cons (de_max2 rfl (T.b_max (by rfl)) (das_cons de_int (das_cons (de_sub (dv 2 rfl (by first | exact .inl rfl | exact .inr (.inl rfl) | exact .inr (.inr rfl))) (de_pow de_int de_int)) das_nil rfl) rfl) rfl rfl) (das_cons (de_add (de_mod (de_intF (T.b_int (by rfl)) (das_cons (de_add (de_add (de_mul (de_mod (de_intF (T.b_int (by rfl)) (das_cons (dv 2 rfl (by first | exact .inl rfl | exact .inr (.inl rfl) | exact .inr (.inr rfl))) das_nil rfl) rfl rfl) de_int) de_int) (de_mul de_int (dv 1 rfl (by first | exact .inl rfl | exact .inr (.inl rfl) | exact .inr (.inr rfl))))) de_int) das_nil rfl) rfl rfl) de_int) de_int) das_nil rfl) rfl)))
    dss_nil))
theorem sc__law_draw : FnScope ["pot", "many", "digit"] ["pot", "many"] (defScope s__law_draw) := ⟨rfl, rfl, rfl, by decide +kernel, rfl, by decide +kernel, by decide +kernel⟩
theorem simple__law_draw (T : Top K mg) : Simple T.d__law_draw ["pot", "many"] := simple_of T.F__law_draw rfl rfl rfl rfl rfl
theorem ok__law_draw (T : Top K mg) : FnG P w K mg base 1 T.a__law_draw T.d__law_draw ["pot", "many"] (spD K 2 f__law_draw) := by
  have sc := sc__law_draw
  refine fnG_of (k := 0) T.F__law_draw sc rfl rfl (by decide) fun cdv A outer s H E hr => ?_
  have hg := hr.gd
  have hu := hu64 hr
  have hv := hu65 hr
  exact (dss_cons (ds_if (dt_gt  (de_at (fun _ _ => rfl) (dv 0 rfl (by first | exact .inl rfl | exact .inr (.inl rfl) | exact .inr (.inr rfl))) de_int) de_int) (dss_cons (ds_to (de_divmod (T.b_divmod (by rfl)) (das_cons (de_at (fun _ _ => rfl) (dv 0 rfl (by first | exact .inl rfl | exact .inr (.inl rfl) | exact .inr (.inr rfl))) de_int) (das_cons (dv 1 rfl (by first | exact .inl rfl | exact .inr (.inl rfl) | exact .inr (.inr rfl))) das_nil rfl) rfl) rfl rfl) (dgs_tup rfl (dgss_cons (dgs_at (dv 0 rfl (by first | exact .inl rfl | exact .inr (.inl rfl) | exact .inr (.inr rfl))) de_int (fun _ => rfl)) (dgss_cons (dgs_name (i := 2) sc.nd rfl (by first | exact .inl rfl | exact .inr rfl) (by first | exact .inl rfl | exact .inr rfl)) dgss_nil rfl) rfl) rfl rfl) rfl rfl rfl)
    (dss_cons (ds_ret (dv 2 rfl (by first | exact .inl rfl | exact .inr (.inl rfl) | exact .inr (.inr rfl))))
    dss_nil)) dss_nil)
    (dss_cons (ds_to (de_mod (de_intF (T.b_int (by rfl)) (das_cons (de_add (de_mul (de_at (fun _ _ => rfl) (dv 0 rfl (by first | exact .inl rfl | exact .inr (.inl rfl) | exact .inr (.inr rfl))) de_int) de_int) de_int) das_nil rfl) rfl rfl) de_int) (dgs_at (dv 0 rfl (by first | exact .inl rfl | exact .inr (.inl rfl) | exact .inr (.inr rfl))) de_int (fun _ => rfl)) rfl rfl rfl)
    (dss_cons (ds_ret (de_mod (de_intF (T.b_int (by rfl)) (das_cons (de_fdv (de_mod (de_intF (T.b_int (by rfl)) (das_cons (de_mul (de_at (fun _ _ => rfl) (dv 0 rfl (by first | exact .inl rfl | exact .inr (.inl rfl) | exact .inr (.inr rfl))) de_int) (de_at (fun _ _ => rfl) (dv 0 rfl (by first | exact .inl rfl | exact .inr (.inl rfl) | exact .inr (.inr rfl))) de_int)) das_nil rfl) rfl rfl) de_int) de_int) das_nil rfl) rfl rfl) (dv 1 rfl (by first | exact .inl rfl | exact .inr (.inl rfl) | exact .inr (.inr rfl)))))
    dss_nil)))
theorem sc__law_pick : FnScope ["pot", "some"] ["pot", "some"] (defScope s__law_pick) := ⟨rfl, rfl, rfl, by decide +kernel, rfl, by decide +kernel, by decide +kernel⟩
theorem simple__law_pick (T : Top K mg) : Simple T.d__law_pick ["pot", "some"] := simple_of T.F__law_pick rfl rfl rfl rfl rfl
theorem ok__law_pick (T : Top K mg) : FnG P w K mg base 2 T.a__law_pick T.d__law_pick ["pot", "some"] (spD K 2 f__law_pick) := by
  have sc := sc__law_pick
  refine fnG_of (k := 1) T.F__law_pick sc rfl rfl (by decide) fun cdv A outer s H E hr => ?_
  have hg := hr.gd
  have hu := hu64 hr
  have hv := hu65 hr
  exact (dss_cons (ds_ret (de_at (fun _ _ => rfl) (dv 1 rfl (by first | exact .inl rfl | exact .inr (.inl rfl) | exact .inr (.inr rfl))) (de_call (ok__law_draw T) (hr.mono (by decide)) (by rfl) T.m__law_draw T.F__law_draw.kp (simple__law_draw T) (by decide) (das_cons (dv 0 rfl (by first | exact .inl rfl | exact .inr (.inl rfl) | exact .inr (.inr rfl))) (das_cons (de_len (T.b_len (by rfl)) (das_cons (dv 1 rfl (by first | exact .inl rfl | exact .inr (.inl rfl) | exact .inr (.inr rfl))) das_nil rfl) rfl rfl) das_nil rfl) rfl) rfl rfl rfl)))
    dss_nil)
theorem sc__law_any : FnScope ["pot", "many", "value", "turn"] ["pot", "many"] (defScope s__law_any) := ⟨rfl, rfl, rfl, by decide +kernel, rfl, by decide +kernel, by decide +kernel⟩
theorem simple__law_any (T : Top K mg) : Simple T.d__law_any ["pot", "many"] := simple_of T.F__law_any rfl rfl rfl rfl rfl
theorem ok__law_any (T : Top K mg) : FnG P w K mg base 3 T.a__law_any T.d__law_any ["pot", "many"] (spD K 2 f__law_any) := by
  have sc := sc__law_any
  refine fnG_of (k := 2) T.F__law_any sc rfl rfl (by decide) fun cdv A outer s H E hr => ?_
  have hg := hr.gd
  have hu := hu64 hr
  have hv := hu65 hr
  exact (dss_cons (ds_set (i := 2) sc.nd rfl (by first | exact .inl rfl | exact .inr rfl) (.inl rfl) (de_tuple (T.b_tuple (by rfl)) (das_cons (de_lc (own := [("turn", 3)]) rfl sc.nd (di_rng1 (by rfl) T.z_range (das_cons (de_call (ok__law_draw T) (hr.mono (by decide)) (by rfl) T.m__law_draw T.F__law_draw.kp (simple__law_draw T) (by decide) (das_cons (dv 0 rfl (by first | exact .inl rfl | exact .inr (.inl rfl) | exact .inr (.inr rfl))) (das_cons de_int das_nil rfl) rfl) rfl rfl rfl) das_nil rfl) (len_cons len_nil) rfl) (blkOk_by (N := ["pot", "many", "value", "turn"]) (sc := defScope s__law_any) (by decide +kernel)) ⟨fun _ _ _ _ _ => (dg_name sc.nd (i := 3) rfl (by first | exact .inl rfl | exact .inr rfl) (by first | exact .inl rfl | exact .inr rfl)), fun _ _ _ _ _ => pts_yes, fun _ _ _ _ _ => (de_sub (de_call (ok__law_draw T) (hr.mono (by decide)) (by rfl) T.m__law_draw T.F__law_draw.kp (simple__law_draw T) (by decide) (das_cons (dv 0 rfl (by first | exact .inl rfl | exact .inr (.inl rfl) | exact .inr (.inr rfl))) (das_cons (de_add (dv 1 rfl (by first | exact .inl rfl | exact .inr (.inl rfl) | exact .inr (.inr rfl))) de_int) das_nil rfl) rfl) rfl rfl rfl) de_int)⟩ (by decide) (fun _ => rfl)) das_nil rfl) rfl rfl) rfl)
    (dss_cons (ds_ret (de_call (ok__law_pick T) (hr.mono (by decide)) (by rfl) T.m__law_pick T.F__law_pick.kp (simple__law_pick T) (by decide) (das_cons (dv 0 rfl (by first | exact .inl rfl | exact .inr (.inl rfl) | exact .inr (.inr rfl))) (das_cons (de_lst (das_cons (dv 2 rfl (by first | exact .inl rfl | exact .inr (.inl rfl) | exact .inr (.inr rfl))) (das_cons (de_tuple (T.b_tuple (by rfl)) (das_cons (de_sortSet rfl (T.b_sorted (by rfl)) (T.b_set (by rfl)) (dv 2 rfl (by first | exact .inl rfl | exact .inr (.inl rfl) | exact .inr (.inr rfl))) rfl rfl rfl rfl) das_nil rfl) rfl rfl) (das_cons (de_list (T.b_list (by rfl)) (das_cons (dv 2 rfl (by first | exact .inl rfl | exact .inr (.inl rfl) | exact .inr (.inr rfl))) das_nil rfl) rfl rfl) (das_cons (de_add (dv 2 rfl (by first | exact .inl rfl | exact .inr (.inl rfl) | exact .inr (.inr rfl))) (de_tup (das_cons de_bool das_nil rfl))) (das_cons (de_add (de_tup (das_cons de_bool das_nil rfl)) (dv 2 rfl (by first | exact .inl rfl | exact .inr (.inl rfl) | exact .inr (.inr rfl)))) (das_cons (de_add (dv 2 rfl (by first | exact .inl rfl | exact .inr (.inl rfl) | exact .inr (.inr rfl))) (de_tup (das_cons de_none das_nil rfl))) (das_cons (de_add (dv 2 rfl (by first | exact .inl rfl | exact .inr (.inl rfl) | exact .inr (.inr rfl))) (de_tup (das_cons de_str das_nil rfl))) (das_cons (de_mul (dv 2 rfl (by first | exact .inl rfl | exact .inr (.inl rfl) | exact .inr (.inr rfl))) de_int) (das_cons (de_tup das_nil) (das_cons de_none (das_cons de_int (das_cons de_str (das_cons de_dic0 (das_cons (de_tup (das_cons (dv 2 rfl (by first | exact .inl rfl | exact .inr (.inl rfl) | exact .inr (.inr rfl))) das_nil rfl)) das_nil rfl) rfl) rfl) rfl) rfl) rfl) rfl) rfl) rfl) rfl) rfl) rfl) rfl) rfl)) das_nil rfl) rfl) rfl rfl rfl))
    dss_nil))
theorem sc__law_is_lot : FnScope ["many", "value", "near", "far", "one"] ["many", "value"] (defScope s__law_is_lot) := ⟨rfl, rfl, rfl, by decide +kernel, rfl, by decide +kernel, by decide +kernel⟩
theorem simple__law_is_lot (T : Top K mg) : Simple T.d__law_is_lot ["many", "value"] := simple_of T.F__law_is_lot rfl rfl rfl rfl rfl
theorem ok__law_is_lot (T : Top K mg) : FnG P w K mg base 1 T.a__law_is_lot T.d__law_is_lot ["many", "value"] (spD K 2 f__law_is_lot) := by
  have sc := sc__law_is_lot
  refine fnG_of (k := 0) T.F__law_is_lot sc rfl rfl (by decide) fun cdv A outer s H E hr => ?_
  have hg := hr.gd
  have hu := hu64 hr
  have hv := hu65 hr
  exact (dss_cons (ds_if (DW.dt (dw_or (dt_not (dt_val (de_isi kit_tuple (T.b_isinstance (by rfl)) (T.b_tuple (by rfl)) (by decide) (by decide) (dv 1 rfl (by first | exact .inl rfl | exact .inr (.inl rfl) | exact .inr (.inr rfl))) rfl rfl) (fun _ => rfl))) (dw_or1 (dt_not (dt_val (de_all rfl (T.b_all (by rfl)) (das_cons (de_lc (own := [("one", 4)]) rfl sc.nd (di_seq (dv 1 rfl (by first | exact .inl rfl | exact .inr (.inl rfl) | exact .inr (.inr rfl)))) (blkOk_by (N := ["many", "value", "near", "far", "one"]) (sc := defScope s__law_is_lot) (by decide +kernel)) ⟨fun _ _ _ _ _ => (dg_name sc.nd (i := 4) rfl (by first | exact .inl rfl | exact .inr rfl) (by first | exact .inl rfl | exact .inr rfl)), fun _ _ _ _ _ => pts_yes, fun _ _ _ _ _ => (de_and (de_isi kit_int (T.b_isinstance (by rfl)) (T.b_int (by rfl)) (by decide) (by decide) (dv 4 rfl (by first | exact .inl rfl | exact .inr (.inl rfl) | exact .inr (.inr rfl))) rfl rfl) (de_and (de_not (de_isi kit_bool (T.b_isinstance (by rfl)) (T.b_bool (by rfl)) (by decide) (by decide) (dv 4 rfl (by first | exact .inl rfl | exact .inr (.inl rfl) | exact .inr (.inr rfl))) rfl rfl)) (de_one (de_lelt de_int (dv 4 rfl (by first | exact .inl rfl | exact .inr (.inl rfl) | exact .inr (.inr rfl))) (dv 0 rfl (by first | exact .inl rfl | exact .inr (.inl rfl) | exact .inr (.inr rfl)))))))⟩ (by decide) (fun _ => rfl)) das_nil rfl) rfl rfl) (fun _ => rfl)))))) (dss_cons (ds_ret de_bool)
    dss_nil) dss_nil)
    (dss_cons (ds_ret (de_all rfl (T.b_all (by rfl)) (das_cons (de_lc (own := [("near", 2), ("far", 3)]) rfl sc.nd (di_zip (by rfl) T.z_zip (das_cons (dv 1 rfl (by first | exact .inl rfl | exact .inr (.inl rfl) | exact .inr (.inr rfl))) (das_cons (de_slice (dv 1 rfl (by first | exact .inl rfl | exact .inr (.inl rfl) | exact .inr (.inr rfl))) (do_some de_int) do_none) das_nil rfl) rfl) rfl rfl) (blkOk_by (N := ["many", "value", "near", "far", "one"]) (sc := defScope s__law_is_lot) (by decide +kernel)) ⟨fun _ _ _ _ _ => (dg_tup rfl sc.nd (.cons (i := 2) rfl (by first | exact .inl rfl | exact .inr rfl) (by first | exact .inl rfl | exact .inr rfl) (.cons (i := 3) rfl (by first | exact .inl rfl | exact .inr rfl) (by first | exact .inl rfl | exact .inr rfl) .nil))), fun _ _ _ _ _ => pts_yes, fun _ _ _ _ _ => (de_lt  (dv 2 rfl (by first | exact .inl rfl | exact .inr (.inl rfl) | exact .inr (.inr rfl))) (dv 3 rfl (by first | exact .inl rfl | exact .inr (.inl rfl) | exact .inr (.inr rfl))))⟩ (by decide) (fun _ => rfl)) das_nil rfl) rfl rfl))
    dss_nil))
theorem sc__law_lots : FnScope ["many", "found", "column", "lot"] ["many"] (defScope s__law_lots) := ⟨rfl, rfl, rfl, by decide +kernel, rfl, by decide +kernel, by decide +kernel⟩
theorem simple__law_lots (T : Top K mg) : Simple T.d__law_lots ["many"] := simple_of T.F__law_lots rfl rfl rfl rfl rfl
theorem ok__law_lots (T : Top K mg) : FnG P w K mg base 1 T.a__law_lots T.d__law_lots ["many"] (spD K 1 f__law_lots) := by
  have sc := sc__law_lots
  refine fnG_of (k := 0) T.F__law_lots sc rfl rfl (by decide) fun cdv A outer s H E hr => ?_
  have hg := hr.gd
  have hu := hu64 hr
  have hv := hu65 hr
  exact (dss_cons (ds_set (i := 1) sc.nd rfl (by first | exact .inl rfl | exact .inr rfl) (.inl rfl) (de_lst (das_cons (de_tup das_nil) das_nil rfl)) rfl)
    (dss_cons (ds_for PassesOwn.never rfl (di_rng1 (by rfl) T.z_range (das_cons (dv 0 rfl (by first | exact .inl rfl | exact .inr (.inl rfl) | exact .inr (.inr rfl))) das_nil rfl) (len_cons len_nil) rfl) (dgs_name (i := 2) sc.nd rfl (by first | exact .inl rfl | exact .inr rfl) (by first | exact .inl rfl | exact .inr rfl)) (dss_cons (ds_set (i := 1) sc.nd rfl (by first | exact .inl rfl | exact .inr rfl) (.inl rfl) (de_add (dv 1 rfl (by first | exact .inl rfl | exact .inr (.inl rfl) | exact .inr (.inr rfl))) (de_lc (own := [("lot", 3)]) rfl sc.nd (di_seq (dv 1 rfl (by first | exact .inl rfl | exact .inr (.inl rfl) | exact .inr (.inr rfl)))) (blkOk_by (N := ["many", "found", "column", "lot"]) (sc := defScope s__law_lots) (by decide +kernel)) ⟨fun _ _ _ _ _ => (dg_name sc.nd (i := 3) rfl (by first | exact .inl rfl | exact .inr rfl) (by first | exact .inl rfl | exact .inr rfl)), fun _ _ _ _ _ => pts_yes, fun _ _ _ _ _ => (de_add (dv 3 rfl (by first | exact .inl rfl | exact .inr (.inl rfl) | exact .inr (.inr rfl))) (de_tup (das_cons (dv 2 rfl (by first | exact .inl rfl | exact .inr (.inl rfl) | exact .inr (.inr rfl))) das_nil rfl)))⟩ (by decide) (fun _ => rfl))) rfl)
    dss_nil) (fun _ => rfl))
    (dss_cons (ds_ret (de_sorted hu (T.b_sorted (by rfl)) (das_cons (dv 1 rfl (by first | exact .inl rfl | exact .inr (.inl rfl) | exact .inr (.inr rfl))) das_nil rfl) rfl rfl))
    dss_nil)))
theorem sc_shared : FnScope ["lot", "other", "column"] ["lot", "other"] (defScope s_shared) := ⟨rfl, rfl, rfl, by decide +kernel, rfl, by decide +kernel, by decide +kernel⟩
theorem simple_shared (T : Top K mg) : Simple T.d_shared ["lot", "other"] := simple_of T.F_shared rfl rfl rfl rfl rfl
theorem ok_shared (T : Top K mg) : FnG P w K mg base 1 T.a_shared T.d_shared ["lot", "other"] (spD K 2 f_shared) := by
  have sc := sc_shared
  refine fnG_of (k := 0) T.F_shared sc rfl rfl (by decide) fun cdv A outer s H E hr => ?_
  have hg := hr.gd
  have hu := hu64 hr
  have hv := hu65 hr
  exact (dss_cons (ds_ret (de_tuple (T.b_tuple (by rfl)) (das_cons (de_lc (own := [("column", 2)]) rfl sc.nd (di_seq (dv 0 rfl (by first | exact .inl rfl | exact .inr (.inl rfl) | exact .inr (.inr rfl)))) (blkOk_by (N := ["lot", "other", "column"]) (sc := defScope s_shared) (by decide +kernel)) ⟨fun _ _ _ _ _ => (dg_name sc.nd (i := 2) rfl (by first | exact .inl rfl | exact .inr rfl) (by first | exact .inl rfl | exact .inr rfl)), fun _ _ _ _ _ => (pts_1 (dt_in hv (by rfl) (dv 2 rfl (by first | exact .inl rfl | exact .inr (.inl rfl) | exact .inr (.inr rfl))) (dv 1 rfl (by first | exact .inl rfl | exact .inr (.inl rfl) | exact .inr (.inr rfl))))), fun _ _ _ _ _ => (dv 2 rfl (by first | exact .inl rfl | exact .inr (.inl rfl) | exact .inr (.inr rfl)))⟩ (by decide) (fun _ => rfl)) das_nil rfl) rfl rfl))
    dss_nil)
theorem sc_is_rising : FnScope ["numbers", "near", "far"] ["numbers"] (defScope s_is_rising) := ⟨rfl, rfl, rfl, by decide +kernel, rfl, by decide +kernel, by decide +kernel⟩
theorem simple_is_rising (T : Top K mg) : Simple T.d_is_rising ["numbers"] := simple_of T.F_is_rising rfl rfl rfl rfl rfl
theorem ok_is_rising (T : Top K mg) : FnG P w K mg base 1 T.a_is_rising T.d_is_rising ["numbers"] (spD K 1 f_is_rising) := by
  have sc := sc_is_rising
  refine fnG_of (k := 0) T.F_is_rising sc rfl rfl (by decide) fun cdv A outer s H E hr => ?_
  have hg := hr.gd
  have hu := hu64 hr
  have hv := hu65 hr
  exact (dss_cons (ds_ret (de_all rfl (T.b_all (by rfl)) (das_cons (de_lc (own := [("near", 1), ("far", 2)]) rfl sc.nd (di_zip (by rfl) T.z_zip (das_cons (dv 0 rfl (by first | exact .inl rfl | exact .inr (.inl rfl) | exact .inr (.inr rfl))) (das_cons (de_slice (dv 0 rfl (by first | exact .inl rfl | exact .inr (.inl rfl) | exact .inr (.inr rfl))) (do_some de_int) do_none) das_nil rfl) rfl) rfl rfl) (blkOk_by (N := ["numbers", "near", "far"]) (sc := defScope s_is_rising) (by decide +kernel)) ⟨fun _ _ _ _ _ => (dg_tup rfl sc.nd (.cons (i := 1) rfl (by first | exact .inl rfl | exact .inr rfl) (by first | exact .inl rfl | exact .inr rfl) (.cons (i := 2) rfl (by first | exact .inl rfl | exact .inr rfl) (by first | exact .inl rfl | exact .inr rfl) .nil))), fun _ _ _ _ _ => pts_yes, fun _ _ _ _ _ => (de_lt  (dv 1 rfl (by first | exact .inl rfl | exact .inr (.inl rfl) | exact .inr (.inr rfl))) (dv 2 rfl (by first | exact .inl rfl | exact .inr (.inl rfl) | exact .inr (.inr rfl))))⟩ (by decide) (fun _ => rfl)) das_nil rfl) rfl rfl))
    dss_nil)
theorem sc_is_integer : FnScope ["value"] ["value"] (defScope s_is_integer) := ⟨rfl, rfl, rfl, by decide +kernel, rfl, by decide +kernel, by decide +kernel⟩
theorem simple_is_integer (T : Top K mg) : Simple T.d_is_integer ["value"] := simple_of T.F_is_integer rfl rfl rfl rfl rfl
theorem ok_is_integer (T : Top K mg) : FnG P w K mg base 1 T.a_is_integer T.d_is_integer ["value"] (spD K 1 f_is_integer) := by
  have sc := sc_is_integer
  refine fnG_of (k := 0) T.F_is_integer sc rfl rfl (by decide) fun cdv A outer s H E hr => ?_
  have hg := hr.gd
  have hu := hu64 hr
  have hv := hu65 hr
  exact (dss_cons (ds_ret (de_and (de_isi kit_int (T.b_isinstance (by rfl)) (T.b_int (by rfl)) (by decide) (by decide) (dv 0 rfl (by first | exact .inl rfl | exact .inr (.inl rfl) | exact .inr (.inr rfl))) rfl rfl) (de_one (de_not (de_isi kit_bool (T.b_isinstance (by rfl)) (T.b_bool (by rfl)) (by decide) (by decide) (dv 0 rfl (by first | exact .inl rfl | exact .inr (.inl rfl) | exact .inr (.inr rfl))) rfl rfl)))))
    dss_nil)
theorem sc_is_within : FnScope ["value", "least", "most"] ["value", "least", "most"] (defScope s_is_within) := ⟨rfl, rfl, rfl, by decide +kernel, rfl, by decide +kernel, by decide +kernel⟩
theorem simple_is_within (T : Top K mg) : Simple T.d_is_within ["value", "least", "most"] := simple_of T.F_is_within rfl rfl rfl rfl rfl
theorem ok_is_within (T : Top K mg) : FnG P w K mg base 2 T.a_is_within T.d_is_within ["value", "least", "most"] (spD K 3 f_is_within) := by
  have sc := sc_is_within
  refine fnG_of (k := 1) T.F_is_within sc rfl rfl (by decide) fun cdv A outer s H E hr => ?_
  have hg := hr.gd
  have hu := hu64 hr
  have hv := hu65 hr
  exact (dss_cons (ds_ret (de_and (de_call (ok_is_integer T) (hr.mono (by decide)) (by rfl) T.m_is_integer T.F_is_integer.kp (simple_is_integer T) (by decide) (das_cons (dv 0 rfl (by first | exact .inl rfl | exact .inr (.inl rfl) | exact .inr (.inr rfl))) das_nil rfl) rfl rfl rfl) (de_one (de_lele (dv 1 rfl (by first | exact .inl rfl | exact .inr (.inl rfl) | exact .inr (.inr rfl))) (dv 0 rfl (by first | exact .inl rfl | exact .inr (.inl rfl) | exact .inr (.inr rfl))) (dv 2 rfl (by first | exact .inl rfl | exact .inr (.inl rfl) | exact .inr (.inr rfl)))))))
    dss_nil)
theorem sc_are_counts_below : FnScope ["value", "most", "one"] ["value", "most"] (defScope s_are_counts_below) := ⟨rfl, rfl, rfl, by decide +kernel, rfl, by decide +kernel, by decide +kernel⟩
theorem simple_are_counts_below (T : Top K mg) : Simple T.d_are_counts_below ["value", "most"] := simple_of T.F_are_counts_below rfl rfl rfl rfl rfl
theorem ok_are_counts_below (T : Top K mg) : FnG P w K mg base 3 T.a_are_counts_below T.d_are_counts_below ["value", "most"] (spD K 2 f_are_counts_below) := by
  have sc := sc_are_counts_below
  refine fnG_of (k := 2) T.F_are_counts_below sc rfl rfl (by decide) fun cdv A outer s H E hr => ?_
  have hg := hr.gd
  have hu := hu64 hr
  have hv := hu65 hr
  exact (dss_cons (ds_ret (de_and (de_isi kit_tuple (T.b_isinstance (by rfl)) (T.b_tuple (by rfl)) (by decide) (by decide) (dv 0 rfl (by first | exact .inl rfl | exact .inr (.inl rfl) | exact .inr (.inr rfl))) rfl rfl) (de_and (de_all rfl (T.b_all (by rfl)) (das_cons (de_lc (own := [("one", 2)]) rfl sc.nd (di_seq (dv 0 rfl (by first | exact .inl rfl | exact .inr (.inl rfl) | exact .inr (.inr rfl)))) (blkOk_by (N := ["value", "most", "one"]) (sc := defScope s_are_counts_below) (by decide +kernel)) ⟨fun _ _ _ _ _ => (dg_name sc.nd (i := 2) rfl (by first | exact .inl rfl | exact .inr rfl) (by first | exact .inl rfl | exact .inr rfl)), fun _ _ _ _ _ => pts_yes, fun _ _ _ _ _ => (de_call (ok_is_within T) (hr.mono (by decide)) (by rfl) T.m_is_within T.F_is_within.kp (simple_is_within T) (by decide) (das_cons (dv 2 rfl (by first | exact .inl rfl | exact .inr (.inl rfl) | exact .inr (.inr rfl))) (das_cons de_int (das_cons (de_sub (dv 1 rfl (by first | exact .inl rfl | exact .inr (.inl rfl) | exact .inr (.inr rfl))) de_int) das_nil rfl) rfl) rfl) rfl rfl rfl)⟩ (by decide) (fun _ => rfl)) das_nil rfl) rfl rfl) (de_one (de_call (ok_is_rising T) (hr.mono (by decide)) (by rfl) T.m_is_rising T.F_is_rising.kp (simple_is_rising T) (by decide) (das_cons (dv 0 rfl (by first | exact .inl rfl | exact .inr (.inl rfl) | exact .inr (.inr rfl))) das_nil rfl) rfl rfl rfl)))))
    dss_nil)
theorem sc_is_lot_of : FnScope ["many", "value"] ["many", "value"] (defScope s_is_lot_of) := ⟨rfl, rfl, rfl, by decide +kernel, rfl, by decide +kernel, by decide +kernel⟩
theorem simple_is_lot_of (T : Top K mg) : Simple T.d_is_lot_of ["many", "value"] := simple_of T.F_is_lot_of rfl rfl rfl rfl rfl
theorem ok_is_lot_of (T : Top K mg) : FnG P w K mg base 4 T.a_is_lot_of T.d_is_lot_of ["many", "value"] (spD K 2 f_is_lot_of) := by
  have sc := sc_is_lot_of
  refine fnG_of (k := 3) T.F_is_lot_of sc rfl rfl (by decide) fun cdv A outer s H E hr => ?_
  have hg := hr.gd
  have hu := hu64 hr
  have hv := hu65 hr
  exact (dss_cons (ds_ret (de_call (ok_are_counts_below T) (hr.mono (by decide)) (by rfl) T.m_are_counts_below T.F_are_counts_below.kp (simple_are_counts_below T) (by decide) (das_cons (dv 1 rfl (by first | exact .inl rfl | exact .inr (.inl rfl) | exact .inr (.inr rfl))) (das_cons (dv 0 rfl (by first | exact .inl rfl | exact .inr (.inl rfl) | exact .inr (.inr rfl))) das_nil rfl) rfl) rfl rfl rfl))
    dss_nil)
theorem sc_want_lot : FnScope ["many", "value"] ["many", "value"] (defScope s_want_lot) := ⟨rfl, rfl, rfl, by decide +kernel, rfl, by decide +kernel, by decide +kernel⟩
theorem simple_want_lot (T : Top K mg) : Simple T.d_want_lot ["many", "value"] := simple_of T.F_want_lot rfl rfl rfl rfl rfl
theorem ok_want_lot (T : Top K mg) : FnG P w K mg base 5 T.a_want_lot T.d_want_lot ["many", "value"] (spD K 2 f_want_lot) := by
  have sc := sc_want_lot
  refine fnG_of (k := 4) T.F_want_lot sc rfl rfl (by decide) fun cdv A outer s H E hr => ?_
  have hg := hr.gd
  have hu := hu64 hr
  have hv := hu65 hr
  exact (dss_cons (ds_if (dt_not (dt_val (de_call (ok_is_lot_of T) (hr.mono (by decide)) (by rfl) T.m_is_lot_of T.F_is_lot_of.kp (simple_is_lot_of T) (by decide) (das_cons (dv 0 rfl (by first | exact .inl rfl | exact .inr (.inl rfl) | exact .inr (.inr rfl))) (das_cons (dv 1 rfl (by first | exact .inl rfl | exact .inr (.inl rfl) | exact .inr (.inr rfl))) das_nil rfl) rfl) rfl rfl rfl) (fun _ => rfl))) (dss_cons ds_never
    dss_nil) dss_nil)
    (dss_cons (ds_ret (dv 1 rfl (by first | exact .inl rfl | exact .inr (.inl rfl) | exact .inr (.inr rfl))))
    dss_nil))
theorem sc_want_many : FnScope ["value"] ["value"] (defScope s_want_many) := ⟨rfl, rfl, rfl, by decide +kernel, rfl, by decide +kernel, by decide +kernel⟩
theorem simple_want_many (T : Top K mg) : Simple T.d_want_many ["value"] := simple_of T.F_want_many rfl rfl rfl rfl rfl
theorem ok_want_many (T : Top K mg) : FnG P w K mg base 3 T.a_want_many T.d_want_many ["value"] (spD K 1 f_want_many) := by
  have sc := sc_want_many
  refine fnG_of (k := 2) T.F_want_many sc rfl rfl (by decide) fun cdv A outer s H E hr => ?_
  have hg := hr.gd
  have hu := hu64 hr
  have hv := hu65 hr
  exact (dss_cons (ds_if (dt_not (dt_val (de_call (ok_is_within T) (hr.mono (by decide)) (by rfl) T.m_is_within T.F_is_within.kp (simple_is_within T) (by decide) (das_cons (dv 0 rfl (by first | exact .inl rfl | exact .inr (.inl rfl) | exact .inr (.inr rfl))) (das_cons de_int (das_cons (de_gint (T.g_MOST_COLUMNS) (by rfl) (by decide)) das_nil rfl) rfl) rfl) rfl rfl rfl) (fun _ => rfl))) (dss_cons ds_never
    dss_nil) dss_nil)
    (dss_cons (ds_ret (dv 0 rfl (by first | exact .inl rfl | exact .inr (.inl rfl) | exact .inr (.inr rfl))))
    dss_nil))
theorem sc_want_other : FnScope ["many", "value"] ["many", "value"] (defScope s_want_other) := ⟨rfl, rfl, rfl, by decide +kernel, rfl, by decide +kernel, by decide +kernel⟩
theorem simple_want_other (T : Top K mg) : Simple T.d_want_other ["many", "value"] := simple_of T.F_want_other rfl rfl rfl rfl rfl
theorem ok_want_other (T : Top K mg) : FnG P w K mg base 5 T.a_want_other T.d_want_other ["many", "value"] (spD K 2 f_want_other) := by
  have sc := sc_want_other
  refine fnG_of (k := 4) T.F_want_other sc rfl rfl (by decide) fun cdv A outer s H E hr => ?_
  have hg := hr.gd
  have hu := hu64 hr
  have hv := hu65 hr
  exact (dss_cons (ds_if (dt_not (dt_val (de_call (ok_is_lot_of T) (hr.mono (by decide)) (by rfl) T.m_is_lot_of T.F_is_lot_of.kp (simple_is_lot_of T) (by decide) (das_cons (dv 0 rfl (by first | exact .inl rfl | exact .inr (.inl rfl) | exact .inr (.inr rfl))) (das_cons (dv 1 rfl (by first | exact .inl rfl | exact .inr (.inl rfl) | exact .inr (.inr rfl))) das_nil rfl) rfl) rfl rfl rfl) (fun _ => rfl))) (dss_cons ds_never
    dss_nil) dss_nil)
    (dss_cons (ds_ret (dv 1 rfl (by first | exact .inl rfl | exact .inr (.inl rfl) | exact .inr (.inr rfl))))
    dss_nil))
theorem sc_want_two : FnScope ["many", "lot", "other"] ["many", "lot", "other"] (defScope s_want_two) := ⟨rfl, rfl, rfl, by decide +kernel, rfl, by decide +kernel, by decide +kernel⟩
theorem simple_want_two (T : Top K mg) : Simple T.d_want_two ["many", "lot", "other"] := simple_of T.F_want_two rfl rfl rfl rfl rfl
theorem ok_want_two (T : Top K mg) : FnG P w K mg base 6 T.a_want_two T.d_want_two ["many", "lot", "other"] (spD K 3 f_want_two) := by
  have sc := sc_want_two
  refine fnG_of (k := 5) T.F_want_two sc rfl rfl (by decide) fun cdv A outer s H E hr => ?_
  have hg := hr.gd
  have hu := hu64 hr
  have hv := hu65 hr
  exact (dss_cons (ds_expr (de_call (ok_want_lot T) (hr.mono (by decide)) (by rfl) T.m_want_lot T.F_want_lot.kp (simple_want_lot T) (by decide) (das_cons (de_call (ok_want_many T) (hr.mono (by decide)) (by rfl) T.m_want_many T.F_want_many.kp (simple_want_many T) (by decide) (das_cons (dv 0 rfl (by first | exact .inl rfl | exact .inr (.inl rfl) | exact .inr (.inr rfl))) das_nil rfl) rfl rfl rfl) (das_cons (dv 1 rfl (by first | exact .inl rfl | exact .inr (.inl rfl) | exact .inr (.inr rfl))) das_nil rfl) rfl) rfl rfl rfl) rfl)
    (dss_cons (ds_expr (de_call (ok_want_other T) (hr.mono (by decide)) (by rfl) T.m_want_other T.F_want_other.kp (simple_want_other T) (by decide) (das_cons (dv 0 rfl (by first | exact .inl rfl | exact .inr (.inl rfl) | exact .inr (.inr rfl))) (das_cons (dv 2 rfl (by first | exact .inl rfl | exact .inr (.inl rfl) | exact .inr (.inr rfl))) das_nil rfl) rfl) rfl rfl rfl) rfl)
    dss_nil))
theorem sc_common : FnScope ["many", "lot", "other"] ["many", "lot", "other"] (defScope s_common) := ⟨rfl, rfl, rfl, by decide +kernel, rfl, by decide +kernel, by decide +kernel⟩
theorem simple_common (T : Top K mg) : Simple T.d_common ["many", "lot", "other"] := simple_of T.F_common rfl rfl rfl rfl rfl
theorem ok_common (T : Top K mg) : FnG P w K mg base 7 T.a_common T.d_common ["many", "lot", "other"] (spD K 3 f_common) := by
  have sc := sc_common
  refine fnG_of (k := 6) T.F_common sc rfl rfl (by decide) fun cdv A outer s H E hr => ?_
  have hg := hr.gd
  have hu := hu64 hr
  have hv := hu65 hr
  exact (dss_cons (ds_expr (de_call (ok_want_two T) (hr.mono (by decide)) (by rfl) T.m_want_two T.F_want_two.kp (simple_want_two T) (by decide) (das_cons (dv 0 rfl (by first | exact .inl rfl | exact .inr (.inl rfl) | exact .inr (.inr rfl))) (das_cons (dv 1 rfl (by first | exact .inl rfl | exact .inr (.inl rfl) | exact .inr (.inr rfl))) (das_cons (dv 2 rfl (by first | exact .inl rfl | exact .inr (.inl rfl) | exact .inr (.inr rfl))) das_nil rfl) rfl) rfl) rfl rfl rfl) rfl)
    (dss_cons (ds_ret (de_call (ok_shared T) (hr.mono (by decide)) (by rfl) T.m_shared T.F_shared.kp (simple_shared T) (by decide) (das_cons (dv 1 rfl (by first | exact .inl rfl | exact .inr (.inl rfl) | exact .inr (.inr rfl))) (das_cons (dv 2 rfl (by first | exact .inl rfl | exact .inr (.inl rfl) | exact .inr (.inr rfl))) das_nil rfl) rfl) rfl rfl rfl))
    dss_nil))
theorem sc_is_part : FnScope ["lot", "other", "column"] ["lot", "other"] (defScope s_is_part) := ⟨rfl, rfl, rfl, by decide +kernel, rfl, by decide +kernel, by decide +kernel⟩
theorem simple_is_part (T : Top K mg) : Simple T.d_is_part ["lot", "other"] := simple_of T.F_is_part rfl rfl rfl rfl rfl
theorem ok_is_part (T : Top K mg) : FnG P w K mg base 1 T.a_is_part T.d_is_part ["lot", "other"] (spD K 2 f_is_part) := by
  have sc := sc_is_part
  refine fnG_of (k := 0) T.F_is_part sc rfl rfl (by decide) fun cdv A outer s H E hr => ?_
  have hg := hr.gd
  have hu := hu64 hr
  have hv := hu65 hr
  exact (dss_cons (ds_ret (de_all rfl (T.b_all (by rfl)) (das_cons (de_lc (own := [("column", 2)]) rfl sc.nd (di_seq (dv 0 rfl (by first | exact .inl rfl | exact .inr (.inl rfl) | exact .inr (.inr rfl)))) (blkOk_by (N := ["lot", "other", "column"]) (sc := defScope s_is_part) (by decide +kernel)) ⟨fun _ _ _ _ _ => (dg_name sc.nd (i := 2) rfl (by first | exact .inl rfl | exact .inr rfl) (by first | exact .inl rfl | exact .inr rfl)), fun _ _ _ _ _ => pts_yes, fun _ _ _ _ _ => (de_in hv (by rfl) (dv 2 rfl (by first | exact .inl rfl | exact .inr (.inl rfl) | exact .inr (.inr rfl))) (dv 1 rfl (by first | exact .inl rfl | exact .inr (.inl rfl) | exact .inr (.inr rfl))))⟩ (by decide) (fun _ => rfl)) das_nil rfl) rfl rfl))
    dss_nil)
theorem sc_is_within_lot : FnScope ["many", "lot", "other"] ["many", "lot", "other"] (defScope s_is_within_lot) := ⟨rfl, rfl, rfl, by decide +kernel, rfl, by decide +kernel, by decide +kernel⟩
theorem simple_is_within_lot (T : Top K mg) : Simple T.d_is_within_lot ["many", "lot", "other"] := simple_of T.F_is_within_lot rfl rfl rfl rfl rfl
theorem ok_is_within_lot (T : Top K mg) : FnG P w K mg base 7 T.a_is_within_lot T.d_is_within_lot ["many", "lot", "other"] (spD K 3 f_is_within_lot) := by
  have sc := sc_is_within_lot
  refine fnG_of (k := 6) T.F_is_within_lot sc rfl rfl (by decide) fun cdv A outer s H E hr => ?_
  have hg := hr.gd
  have hu := hu64 hr
  have hv := hu65 hr
  exact (dss_cons (ds_expr (de_call (ok_want_two T) (hr.mono (by decide)) (by rfl) T.m_want_two T.F_want_two.kp (simple_want_two T) (by decide) (das_cons (dv 0 rfl (by first | exact .inl rfl | exact .inr (.inl rfl) | exact .inr (.inr rfl))) (das_cons (dv 1 rfl (by first | exact .inl rfl | exact .inr (.inl rfl) | exact .inr (.inr rfl))) (das_cons (dv 2 rfl (by first | exact .inl rfl | exact .inr (.inl rfl) | exact .inr (.inr rfl))) das_nil rfl) rfl) rfl) rfl rfl rfl) rfl)
    (dss_cons (ds_ret (de_call (ok_is_part T) (hr.mono (by decide)) (by rfl) T.m_is_part T.F_is_part.kp (simple_is_part T) (by decide) (das_cons (dv 1 rfl (by first | exact .inl rfl | exact .inr (.inl rfl) | exact .inr (.inr rfl))) (das_cons (dv 2 rfl (by first | exact .inl rfl | exact .inr (.inl rfl) | exact .inr (.inr rfl))) das_nil rfl) rfl) rfl rfl rfl))
    dss_nil))
theorem sc_both : FnScope ["lot", "other"] ["lot", "other"] (defScope s_both) := ⟨rfl, rfl, rfl, by decide +kernel, rfl, by decide +kernel, by decide +kernel⟩
theorem simple_both (T : Top K mg) : Simple T.d_both ["lot", "other"] := simple_of T.F_both rfl rfl rfl rfl rfl
theorem ok_both (T : Top K mg) : FnG P w K mg base 1 T.a_both T.d_both ["lot", "other"] (spD K 2 f_both) := by
  have sc := sc_both
  refine fnG_of (k := 0) T.F_both sc rfl rfl (by decide) fun cdv A outer s H E hr => ?_
  have hg := hr.gd
  have hu := hu64 hr
  have hv := hu65 hr
  exact (dss_cons (ds_ret (de_tuple (T.b_tuple (by rfl)) (das_cons (de_sortSet rfl (T.b_sorted (by rfl)) (T.b_set (by rfl)) (de_add (dv 0 rfl (by first | exact .inl rfl | exact .inr (.inl rfl) | exact .inr (.inr rfl))) (dv 1 rfl (by first | exact .inl rfl | exact .inr (.inl rfl) | exact .inr (.inr rfl)))) rfl rfl rfl rfl) das_nil rfl) rfl rfl))
    dss_nil)
theorem sc_joined : FnScope ["many", "lot", "other"] ["many", "lot", "other"] (defScope s_joined) := ⟨rfl, rfl, rfl, by decide +kernel, rfl, by decide +kernel, by decide +kernel⟩
theorem simple_joined (T : Top K mg) : Simple T.d_joined ["many", "lot", "other"] := simple_of T.F_joined rfl rfl rfl rfl rfl
theorem ok_joined (T : Top K mg) : FnG P w K mg base 7 T.a_joined T.d_joined ["many", "lot", "other"] (spD K 3 f_joined) := by
  have sc := sc_joined
  refine fnG_of (k := 6) T.F_joined sc rfl rfl (by decide) fun cdv A outer s H E hr => ?_
  have hg := hr.gd
  have hu := hu64 hr
  have hv := hu65 hr
  exact (dss_cons (ds_expr (de_call (ok_want_two T) (hr.mono (by decide)) (by rfl) T.m_want_two T.F_want_two.kp (simple_want_two T) (by decide) (das_cons (dv 0 rfl (by first | exact .inl rfl | exact .inr (.inl rfl) | exact .inr (.inr rfl))) (das_cons (dv 1 rfl (by first | exact .inl rfl | exact .inr (.inl rfl) | exact .inr (.inr rfl))) (das_cons (dv 2 rfl (by first | exact .inl rfl | exact .inr (.inl rfl) | exact .inr (.inr rfl))) das_nil rfl) rfl) rfl) rfl rfl rfl) rfl)
    (dss_cons (ds_ret (de_call (ok_both T) (hr.mono (by decide)) (by rfl) T.m_both T.F_both.kp (simple_both T) (by decide) (das_cons (dv 1 rfl (by first | exact .inl rfl | exact .inr (.inl rfl) | exact .inr (.inr rfl))) (das_cons (dv 2 rfl (by first | exact .inl rfl | exact .inr (.inl rfl) | exact .inr (.inr rfl))) das_nil rfl) rfl) rfl rfl rfl))
    dss_nil))
theorem sc_left_out : FnScope ["lot", "other", "column"] ["lot", "other"] (defScope s_left_out) := ⟨rfl, rfl, rfl, by decide +kernel, rfl, by decide +kernel, by decide +kernel⟩
theorem simple_left_out (T : Top K mg) : Simple T.d_left_out ["lot", "other"] := simple_of T.F_left_out rfl rfl rfl rfl rfl
theorem ok_left_out (T : Top K mg) : FnG P w K mg base 1 T.a_left_out T.d_left_out ["lot", "other"] (spD K 2 f_left_out) := by
  have sc := sc_left_out
  refine fnG_of (k := 0) T.F_left_out sc rfl rfl (by decide) fun cdv A outer s H E hr => ?_
  have hg := hr.gd
  have hu := hu64 hr
  have hv := hu65 hr
  exact (dss_cons (ds_ret (de_tuple (T.b_tuple (by rfl)) (das_cons (de_lc (own := [("column", 2)]) rfl sc.nd (di_seq (dv 0 rfl (by first | exact .inl rfl | exact .inr (.inl rfl) | exact .inr (.inr rfl)))) (blkOk_by (N := ["lot", "other", "column"]) (sc := defScope s_left_out) (by decide +kernel)) ⟨fun _ _ _ _ _ => (dg_name sc.nd (i := 2) rfl (by first | exact .inl rfl | exact .inr rfl) (by first | exact .inl rfl | exact .inr rfl)), fun _ _ _ _ _ => (pts_1 (dt_notIn hv (by rfl) (dv 2 rfl (by first | exact .inl rfl | exact .inr (.inl rfl) | exact .inr (.inr rfl))) (dv 1 rfl (by first | exact .inl rfl | exact .inr (.inl rfl) | exact .inr (.inr rfl))))), fun _ _ _ _ _ => (dv 2 rfl (by first | exact .inl rfl | exact .inr (.inl rfl) | exact .inr (.inr rfl)))⟩ (by decide) (fun _ => rfl)) das_nil rfl) rfl rfl))
    dss_nil)
theorem sc_less : FnScope ["many", "lot", "other"] ["many", "lot", "other"] (defScope s_less) := ⟨rfl, rfl, rfl, by decide +kernel, rfl, by decide +kernel, by decide +kernel⟩
theorem simple_less (T : Top K mg) : Simple T.d_less ["many", "lot", "other"] := simple_of T.F_less rfl rfl rfl rfl rfl
theorem ok_less (T : Top K mg) : FnG P w K mg base 7 T.a_less T.d_less ["many", "lot", "other"] (spD K 3 f_less) := by
  have sc := sc_less
  refine fnG_of (k := 6) T.F_less sc rfl rfl (by decide) fun cdv A outer s H E hr => ?_
  have hg := hr.gd
  have hu := hu64 hr
  have hv := hu65 hr
  exact (dss_cons (ds_expr (de_call (ok_want_two T) (hr.mono (by decide)) (by rfl) T.m_want_two T.F_want_two.kp (simple_want_two T) (by decide) (das_cons (dv 0 rfl (by first | exact .inl rfl | exact .inr (.inl rfl) | exact .inr (.inr rfl))) (das_cons (dv 1 rfl (by first | exact .inl rfl | exact .inr (.inl rfl) | exact .inr (.inr rfl))) (das_cons (dv 2 rfl (by first | exact .inl rfl | exact .inr (.inl rfl) | exact .inr (.inr rfl))) das_nil rfl) rfl) rfl) rfl rfl rfl) rfl)
    (dss_cons (ds_ret (de_call (ok_left_out T) (hr.mono (by decide)) (by rfl) T.m_left_out T.F_left_out.kp (simple_left_out T) (by decide) (das_cons (dv 1 rfl (by first | exact .inl rfl | exact .inr (.inl rfl) | exact .inr (.inr rfl))) (das_cons (dv 2 rfl (by first | exact .inl rfl | exact .inr (.inl rfl) | exact .inr (.inr rfl))) das_nil rfl) rfl) rfl rfl rfl))
    dss_nil))
theorem sc_rest_of : FnScope ["many", "lot", "column"] ["many", "lot"] (defScope s_rest_of) := ⟨rfl, rfl, rfl, by decide +kernel, rfl, by decide +kernel, by decide +kernel⟩
theorem simple_rest_of (T : Top K mg) : Simple T.d_rest_of ["many", "lot"] := simple_of T.F_rest_of rfl rfl rfl rfl rfl
theorem ok_rest_of (T : Top K mg) : FnG P w K mg base 1 T.a_rest_of T.d_rest_of ["many", "lot"] (spD K 2 f_rest_of) := by
  have sc := sc_rest_of
  refine fnG_of (k := 0) T.F_rest_of sc rfl rfl (by decide) fun cdv A outer s H E hr => ?_
  have hg := hr.gd
  have hu := hu64 hr
  have hv := hu65 hr
  exact (dss_cons (ds_ret (de_tuple (T.b_tuple (by rfl)) (das_cons (de_lc (own := [("column", 2)]) rfl sc.nd (di_rng1 (by rfl) T.z_range (das_cons (dv 0 rfl (by first | exact .inl rfl | exact .inr (.inl rfl) | exact .inr (.inr rfl))) das_nil rfl) (len_cons len_nil) rfl) (blkOk_by (N := ["many", "lot", "column"]) (sc := defScope s_rest_of) (by decide +kernel)) ⟨fun _ _ _ _ _ => (dg_name sc.nd (i := 2) rfl (by first | exact .inl rfl | exact .inr rfl) (by first | exact .inl rfl | exact .inr rfl)), fun _ _ _ _ _ => (pts_1 (dt_notIn hv (by rfl) (dv 2 rfl (by first | exact .inl rfl | exact .inr (.inl rfl) | exact .inr (.inr rfl))) (dv 1 rfl (by first | exact .inl rfl | exact .inr (.inl rfl) | exact .inr (.inr rfl))))), fun _ _ _ _ _ => (dv 2 rfl (by first | exact .inl rfl | exact .inr (.inl rfl) | exact .inr (.inr rfl)))⟩ (by decide) (fun _ => rfl)) das_nil rfl) rfl rfl))
    dss_nil)
theorem sc_rest : FnScope ["many", "lot"] ["many", "lot"] (defScope s_rest) := ⟨rfl, rfl, rfl, by decide +kernel, rfl, by decide +kernel, by decide +kernel⟩
theorem simple_rest (T : Top K mg) : Simple T.d_rest ["many", "lot"] := simple_of T.F_rest rfl rfl rfl rfl rfl
theorem ok_rest (T : Top K mg) : FnG P w K mg base 6 T.a_rest T.d_rest ["many", "lot"] (spD K 2 f_rest) := by
  have sc := sc_rest
  refine fnG_of (k := 5) T.F_rest sc rfl rfl (by decide) fun cdv A outer s H E hr => ?_
  have hg := hr.gd
  have hu := hu64 hr
  have hv := hu65 hr
  exact (dss_cons (ds_ret (de_call (ok_rest_of T) (hr.mono (by decide)) (by rfl) T.m_rest_of T.F_rest_of.kp (simple_rest_of T) (by decide) (das_cons (de_call (ok_want_many T) (hr.mono (by decide)) (by rfl) T.m_want_many T.F_want_many.kp (simple_want_many T) (by decide) (das_cons (dv 0 rfl (by first | exact .inl rfl | exact .inr (.inl rfl) | exact .inr (.inr rfl))) das_nil rfl) rfl rfl rfl) (das_cons (de_call (ok_want_lot T) (hr.mono (by decide)) (by rfl) T.m_want_lot T.F_want_lot.kp (simple_want_lot T) (by decide) (das_cons (dv 0 rfl (by first | exact .inl rfl | exact .inr (.inl rfl) | exact .inr (.inr rfl))) (das_cons (dv 1 rfl (by first | exact .inl rfl | exact .inr (.inl rfl) | exact .inr (.inr rfl))) das_nil rfl) rfl) rfl rfl rfl) das_nil rfl) rfl) rfl rfl rfl))
    dss_nil)
theorem sc__law_two_right : FnScope ["many", "lot", "other", "both_v", "shared_v", "left", "told", "named", "due", "column"] ["many", "lot", "other"] (defScope s__law_two_right) := ⟨rfl, rfl, rfl, by decide +kernel, rfl, by decide +kernel, by decide +kernel⟩
theorem simple__law_two_right (T : Top K mg) : Simple T.d__law_two_right ["many", "lot", "other"] := simple_of T.F__law_two_right rfl rfl rfl rfl rfl
theorem ok__law_two_right (T : Top K mg) : FnG P w K mg base 8 T.a__law_two_right T.d__law_two_right ["many", "lot", "other"] (spD K 3 f__law_two_right) := by
  have sc := sc__law_two_right
  refine fnG_of (k := 7) T.F__law_two_right sc rfl rfl (by decide) fun cdv A outer s H E hr => ?_
  have hg := hr.gd
  have hu := hu64 hr
  have hv := hu65 hr
  exact (dss_cons (ds_set (i := 3) sc.nd rfl (by first | exact .inl rfl | exact .inr rfl) (.inl rfl) (de_tuple (T.b_tuple (by rfl)) (das_cons (de_lc (own := [("column", 9)]) rfl sc.nd (di_rng1 (by rfl) T.z_range (das_cons (dv 0 rfl (by first | exact .inl rfl | exact .inr (.inl rfl) | exact .inr (.inr rfl))) das_nil rfl) (len_cons len_nil) rfl) (blkOk_by (N := ["many", "lot", "other", "both_v", "shared_v", "left", "told", "named", "due", "column"]) (sc := defScope s__law_two_right) (by decide +kernel)) ⟨fun _ _ _ _ _ => (dg_name sc.nd (i := 9) rfl (by first | exact .inl rfl | exact .inr rfl) (by first | exact .inl rfl | exact .inr rfl)), fun _ _ _ _ _ => (pts_1 (DW.dt (dw_or (dt_in hv (by rfl) (dv 9 rfl (by first | exact .inl rfl | exact .inr (.inl rfl) | exact .inr (.inr rfl))) (dv 1 rfl (by first | exact .inl rfl | exact .inr (.inl rfl) | exact .inr (.inr rfl)))) (dw_or1 (dt_in hv (by rfl) (dv 9 rfl (by first | exact .inl rfl | exact .inr (.inl rfl) | exact .inr (.inr rfl))) (dv 2 rfl (by first | exact .inl rfl | exact .inr (.inl rfl) | exact .inr (.inr rfl)))))))), fun _ _ _ _ _ => (dv 9 rfl (by first | exact .inl rfl | exact .inr (.inl rfl) | exact .inr (.inr rfl)))⟩ (by decide) (fun _ => rfl)) das_nil rfl) rfl rfl) rfl)
    (dss_cons (ds_set (i := 4) sc.nd rfl (by first | exact .inl rfl | exact .inr rfl) (.inl rfl) (de_tuple (T.b_tuple (by rfl)) (das_cons (de_lc (own := [("column", 9)]) rfl sc.nd (di_seq (dv 1 rfl (by first | exact .inl rfl | exact .inr (.inl rfl) | exact .inr (.inr rfl)))) (blkOk_by (N := ["many", "lot", "other", "both_v", "shared_v", "left", "told", "named", "due", "column"]) (sc := defScope s__law_two_right) (by decide +kernel)) ⟨fun _ _ _ _ _ => (dg_name sc.nd (i := 9) rfl (by first | exact .inl rfl | exact .inr rfl) (by first | exact .inl rfl | exact .inr rfl)), fun _ _ _ _ _ => (pts_1 (dt_in hv (by rfl) (dv 9 rfl (by first | exact .inl rfl | exact .inr (.inl rfl) | exact .inr (.inr rfl))) (dv 2 rfl (by first | exact .inl rfl | exact .inr (.inl rfl) | exact .inr (.inr rfl))))), fun _ _ _ _ _ => (dv 9 rfl (by first | exact .inl rfl | exact .inr (.inl rfl) | exact .inr (.inr rfl)))⟩ (by decide) (fun _ => rfl)) das_nil rfl) rfl rfl) rfl)
    (dss_cons (ds_set (i := 5) sc.nd rfl (by first | exact .inl rfl | exact .inr rfl) (.inl rfl) (de_tuple (T.b_tuple (by rfl)) (das_cons (de_lc (own := [("column", 9)]) rfl sc.nd (di_seq (dv 1 rfl (by first | exact .inl rfl | exact .inr (.inl rfl) | exact .inr (.inr rfl)))) (blkOk_by (N := ["many", "lot", "other", "both_v", "shared_v", "left", "told", "named", "due", "column"]) (sc := defScope s__law_two_right) (by decide +kernel)) ⟨fun _ _ _ _ _ => (dg_name sc.nd (i := 9) rfl (by first | exact .inl rfl | exact .inr rfl) (by first | exact .inl rfl | exact .inr rfl)), fun _ _ _ _ _ => (pts_1 (dt_notIn hv (by rfl) (dv 9 rfl (by first | exact .inl rfl | exact .inr (.inl rfl) | exact .inr (.inr rfl))) (dv 2 rfl (by first | exact .inl rfl | exact .inr (.inl rfl) | exact .inr (.inr rfl))))), fun _ _ _ _ _ => (dv 9 rfl (by first | exact .inl rfl | exact .inr (.inl rfl) | exact .inr (.inr rfl)))⟩ (by decide) (fun _ => rfl)) das_nil rfl) rfl rfl) rfl)
    (dss_cons (ds_set (i := 6) sc.nd rfl (by first | exact .inl rfl | exact .inr rfl) (.inl rfl) (de_lst (das_cons (de_call (ok_joined T) (hr.mono (by decide)) (by rfl) T.m_joined T.F_joined.kp (simple_joined T) (by decide) (das_cons (dv 0 rfl (by first | exact .inl rfl | exact .inr (.inl rfl) | exact .inr (.inr rfl))) (das_cons (dv 1 rfl (by first | exact .inl rfl | exact .inr (.inl rfl) | exact .inr (.inr rfl))) (das_cons (dv 2 rfl (by first | exact .inl rfl | exact .inr (.inl rfl) | exact .inr (.inr rfl))) das_nil rfl) rfl) rfl) rfl rfl rfl) (das_cons (de_call (ok_common T) (hr.mono (by decide)) (by rfl) T.m_common T.F_common.kp (simple_common T) (by decide) (das_cons (dv 0 rfl (by first | exact .inl rfl | exact .inr (.inl rfl) | exact .inr (.inr rfl))) (das_cons (dv 1 rfl (by first | exact .inl rfl | exact .inr (.inl rfl) | exact .inr (.inr rfl))) (das_cons (dv 2 rfl (by first | exact .inl rfl | exact .inr (.inl rfl) | exact .inr (.inr rfl))) das_nil rfl) rfl) rfl) rfl rfl rfl) (das_cons (de_call (ok_less T) (hr.mono (by decide)) (by rfl) T.m_less T.F_less.kp (simple_less T) (by decide) (das_cons (dv 0 rfl (by first | exact .inl rfl | exact .inr (.inl rfl) | exact .inr (.inr rfl))) (das_cons (dv 1 rfl (by first | exact .inl rfl | exact .inr (.inl rfl) | exact .inr (.inr rfl))) (das_cons (dv 2 rfl (by first | exact .inl rfl | exact .inr (.inl rfl) | exact .inr (.inr rfl))) das_nil rfl) rfl) rfl) rfl rfl rfl) (das_cons (de_call (ok_is_within_lot T) (hr.mono (by decide)) (by rfl) T.m_is_within_lot T.F_is_within_lot.kp (simple_is_within_lot T) (by decide) (das_cons (dv 0 rfl (by first | exact .inl rfl | exact .inr (.inl rfl) | exact .inr (.inr rfl))) (das_cons (dv 1 rfl (by first | exact .inl rfl | exact .inr (.inl rfl) | exact .inr (.inr rfl))) (das_cons (dv 2 rfl (by first | exact .inl rfl | exact .inr (.inl rfl) | exact .inr (.inr rfl))) das_nil rfl) rfl) rfl) rfl rfl rfl) das_nil rfl) rfl) rfl) rfl)) rfl)
    (dss_cons (ds_set (i := 7) sc.nd rfl (by first | exact .inl rfl | exact .inr rfl) (.inl rfl) (de_lst (das_cons (de_callK0 (ok_joined T) (hr.mono (by decide)) (by rfl) T.m_joined T.F_joined.kp (simple_joined T) (dks_cons (dv 2 rfl (by first | exact .inl rfl | exact .inr (.inl rfl) | exact .inr (.inr rfl))) (dks_cons (dv 1 rfl (by first | exact .inl rfl | exact .inr (.inl rfl) | exact .inr (.inr rfl))) (dks_cons (dv 0 rfl (by first | exact .inl rfl | exact .inr (.inl rfl) | exact .inr (.inr rfl))) dks_nil))) (by decide) rfl rfl rfl (len_cons (len_cons (len_cons len_nil))) rfl rfl) (das_cons (de_callK0 (ok_common T) (hr.mono (by decide)) (by rfl) T.m_common T.F_common.kp (simple_common T) (dks_cons (dv 2 rfl (by first | exact .inl rfl | exact .inr (.inl rfl) | exact .inr (.inr rfl))) (dks_cons (dv 1 rfl (by first | exact .inl rfl | exact .inr (.inl rfl) | exact .inr (.inr rfl))) (dks_cons (dv 0 rfl (by first | exact .inl rfl | exact .inr (.inl rfl) | exact .inr (.inr rfl))) dks_nil))) (by decide) rfl rfl rfl (len_cons (len_cons (len_cons len_nil))) rfl rfl) (das_cons (de_callK0 (ok_less T) (hr.mono (by decide)) (by rfl) T.m_less T.F_less.kp (simple_less T) (dks_cons (dv 2 rfl (by first | exact .inl rfl | exact .inr (.inl rfl) | exact .inr (.inr rfl))) (dks_cons (dv 1 rfl (by first | exact .inl rfl | exact .inr (.inl rfl) | exact .inr (.inr rfl))) (dks_cons (dv 0 rfl (by first | exact .inl rfl | exact .inr (.inl rfl) | exact .inr (.inr rfl))) dks_nil))) (by decide) rfl rfl rfl (len_cons (len_cons (len_cons len_nil))) rfl rfl) (das_cons (de_callK0 (ok_is_within_lot T) (hr.mono (by decide)) (by rfl) T.m_is_within_lot T.F_is_within_lot.kp (simple_is_within_lot T) (dks_cons (dv 2 rfl (by first | exact .inl rfl | exact .inr (.inl rfl) | exact .inr (.inr rfl))) (dks_cons (dv 1 rfl (by first | exact .inl rfl | exact .inr (.inl rfl) | exact .inr (.inr rfl))) (dks_cons (dv 0 rfl (by first | exact .inl rfl | exact .inr (.inl rfl) | exact .inr (.inr rfl))) dks_nil))) (by decide) rfl rfl rfl (len_cons (len_cons (len_cons len_nil))) rfl rfl) das_nil rfl) rfl) rfl) rfl)) rfl)
    (dss_cons (ds_set (i := 8) sc.nd rfl (by first | exact .inl rfl | exact .inr rfl) (.inl rfl) (de_lst (das_cons (dv 3 rfl (by first | exact .inl rfl | exact .inr (.inl rfl) | exact .inr (.inr rfl))) (das_cons (dv 4 rfl (by first | exact .inl rfl | exact .inr (.inl rfl) | exact .inr (.inr rfl))) (das_cons (dv 5 rfl (by first | exact .inl rfl | exact .inr (.inl rfl) | exact .inr (.inr rfl))) (das_cons (de_eq hu (dv 5 rfl (by first | exact .inl rfl | exact .inr (.inl rfl) | exact .inr (.inr rfl))) (de_tup das_nil)) das_nil rfl) rfl) rfl) rfl)) rfl)
    (dss_cons (ds_if (DW.dt (dw_or (dt_ne hu (de_repr hg hu (T.b_repr (by rfl)) (das_cons (de_lst (das_cons (dv 6 rfl (by first | exact .inl rfl | exact .inr (.inl rfl) | exact .inr (.inr rfl))) (das_cons (dv 7 rfl (by first | exact .inl rfl | exact .inr (.inl rfl) | exact .inr (.inr rfl))) das_nil rfl) rfl)) das_nil rfl) rfl rfl) (de_repr hg hu (T.b_repr (by rfl)) (das_cons (de_lst (das_cons (dv 8 rfl (by first | exact .inl rfl | exact .inr (.inl rfl) | exact .inr (.inr rfl))) (das_cons (dv 8 rfl (by first | exact .inl rfl | exact .inr (.inl rfl) | exact .inr (.inr rfl))) das_nil rfl) rfl)) das_nil rfl) rfl rfl)) (dw_or (dt_ne hu (de_call (ok_joined T) (hr.mono (by decide)) (by rfl) T.m_joined T.F_joined.kp (simple_joined T) (by decide) (das_cons (dv 0 rfl (by first | exact .inl rfl | exact .inr (.inl rfl) | exact .inr (.inr rfl))) (das_cons (dv 2 rfl (by first | exact .inl rfl | exact .inr (.inl rfl) | exact .inr (.inr rfl))) (das_cons (dv 1 rfl (by first | exact .inl rfl | exact .inr (.inl rfl) | exact .inr (.inr rfl))) das_nil rfl) rfl) rfl) rfl rfl rfl) (dv 3 rfl (by first | exact .inl rfl | exact .inr (.inl rfl) | exact .inr (.inr rfl)))) (dw_or1 (dt_ne hu (de_call (ok_common T) (hr.mono (by decide)) (by rfl) T.m_common T.F_common.kp (simple_common T) (by decide) (das_cons (dv 0 rfl (by first | exact .inl rfl | exact .inr (.inl rfl) | exact .inr (.inr rfl))) (das_cons (dv 2 rfl (by first | exact .inl rfl | exact .inr (.inl rfl) | exact .inr (.inr rfl))) (das_cons (dv 1 rfl (by first | exact .inl rfl | exact .inr (.inl rfl) | exact .inr (.inr rfl))) das_nil rfl) rfl) rfl) rfl rfl rfl) (dv 4 rfl (by first | exact .inl rfl | exact .inr (.inl rfl) | exact .inr (.inr rfl)))))))) (dss_cons (ds_ret de_bool)
    dss_nil) dss_nil)
    (dss_cons (ds_if (DW.dt (dw_or (dt_ne hu (de_call (ok_joined T) (hr.mono (by decide)) (by rfl) T.m_joined T.F_joined.kp (simple_joined T) (by decide) (das_cons (dv 0 rfl (by first | exact .inl rfl | exact .inr (.inl rfl) | exact .inr (.inr rfl))) (das_cons (de_call (ok_less T) (hr.mono (by decide)) (by rfl) T.m_less T.F_less.kp (simple_less T) (by decide) (das_cons (dv 0 rfl (by first | exact .inl rfl | exact .inr (.inl rfl) | exact .inr (.inr rfl))) (das_cons (dv 1 rfl (by first | exact .inl rfl | exact .inr (.inl rfl) | exact .inr (.inr rfl))) (das_cons (dv 2 rfl (by first | exact .inl rfl | exact .inr (.inl rfl) | exact .inr (.inr rfl))) das_nil rfl) rfl) rfl) rfl rfl rfl) (das_cons (de_call (ok_less T) (hr.mono (by decide)) (by rfl) T.m_less T.F_less.kp (simple_less T) (by decide) (das_cons (dv 0 rfl (by first | exact .inl rfl | exact .inr (.inl rfl) | exact .inr (.inr rfl))) (das_cons (dv 2 rfl (by first | exact .inl rfl | exact .inr (.inl rfl) | exact .inr (.inr rfl))) (das_cons (dv 1 rfl (by first | exact .inl rfl | exact .inr (.inl rfl) | exact .inr (.inr rfl))) das_nil rfl) rfl) rfl) rfl rfl rfl) das_nil rfl) rfl) rfl) rfl rfl rfl) (de_call (ok_less T) (hr.mono (by decide)) (by rfl) T.m_less T.F_less.kp (simple_less T) (by decide) (das_cons (dv 0 rfl (by first | exact .inl rfl | exact .inr (.inl rfl) | exact .inr (.inr rfl))) (das_cons (dv 3 rfl (by first | exact .inl rfl | exact .inr (.inl rfl) | exact .inr (.inr rfl))) (das_cons (dv 4 rfl (by first | exact .inl rfl | exact .inr (.inl rfl) | exact .inr (.inr rfl))) das_nil rfl) rfl) rfl) rfl rfl rfl)) (dw_or1 (dt_ne hu (de_call (ok_rest T) (hr.mono (by decide)) (by rfl) T.m_rest T.F_rest.kp (simple_rest T) (by decide) (das_cons (dv 0 rfl (by first | exact .inl rfl | exact .inr (.inl rfl) | exact .inr (.inr rfl))) (das_cons (de_call (ok_rest T) (hr.mono (by decide)) (by rfl) T.m_rest T.F_rest.kp (simple_rest T) (by decide) (das_cons (dv 0 rfl (by first | exact .inl rfl | exact .inr (.inl rfl) | exact .inr (.inr rfl))) (das_cons (dv 1 rfl (by first | exact .inl rfl | exact .inr (.inl rfl) | exact .inr (.inr rfl))) das_nil rfl) rfl) rfl rfl rfl) das_nil rfl) rfl) rfl rfl rfl) (dv 1 rfl (by first | exact .inl rfl | exact .inr (.inl rfl) | exact .inr (.inr rfl))))))) (dss_cons (ds_ret de_bool)
    dss_nil) dss_nil)
    (dss_cons (ds_ret (de_and (de_eq hu (de_call (ok_rest T) (hr.mono (by decide)) (by rfl) T.m_rest T.F_rest.kp (simple_rest T) (by decide) (das_cons (dv 0 rfl (by first | exact .inl rfl | exact .inr (.inl rfl) | exact .inr (.inr rfl))) (das_cons (dv 3 rfl (by first | exact .inl rfl | exact .inr (.inl rfl) | exact .inr (.inr rfl))) das_nil rfl) rfl) rfl rfl rfl) (de_call (ok_common T) (hr.mono (by decide)) (by rfl) T.m_common T.F_common.kp (simple_common T) (by decide) (das_cons (dv 0 rfl (by first | exact .inl rfl | exact .inr (.inl rfl) | exact .inr (.inr rfl))) (das_cons (de_call (ok_rest T) (hr.mono (by decide)) (by rfl) T.m_rest T.F_rest.kp (simple_rest T) (by decide) (das_cons (dv 0 rfl (by first | exact .inl rfl | exact .inr (.inl rfl) | exact .inr (.inr rfl))) (das_cons (dv 1 rfl (by first | exact .inl rfl | exact .inr (.inl rfl) | exact .inr (.inr rfl))) das_nil rfl) rfl) rfl rfl rfl) (das_cons (de_call (ok_rest T) (hr.mono (by decide)) (by rfl) T.m_rest T.F_rest.kp (simple_rest T) (by decide) (das_cons (dv 0 rfl (by first | exact .inl rfl | exact .inr (.inl rfl) | exact .inr (.inr rfl))) (das_cons (dv 2 rfl (by first | exact .inl rfl | exact .inr (.inl rfl) | exact .inr (.inr rfl))) das_nil rfl) rfl) rfl rfl rfl) das_nil rfl) rfl) rfl) rfl rfl rfl)) (de_one (de_eq hu (de_callK0 (ok_rest T) (hr.mono (by decide)) (by rfl) T.m_rest T.F_rest.kp (simple_rest T) (dks_cons (dv 4 rfl (by first | exact .inl rfl | exact .inr (.inl rfl) | exact .inr (.inr rfl))) (dks_cons (dv 0 rfl (by first | exact .inl rfl | exact .inr (.inl rfl) | exact .inr (.inr rfl))) dks_nil)) (by decide) rfl rfl rfl (len_cons (len_cons len_nil)) rfl rfl) (de_call (ok_joined T) (hr.mono (by decide)) (by rfl) T.m_joined T.F_joined.kp (simple_joined T) (by decide) (das_cons (dv 0 rfl (by first | exact .inl rfl | exact .inr (.inl rfl) | exact .inr (.inr rfl))) (das_cons (de_call (ok_rest T) (hr.mono (by decide)) (by rfl) T.m_rest T.F_rest.kp (simple_rest T) (by decide) (das_cons (dv 0 rfl (by first | exact .inl rfl | exact .inr (.inl rfl) | exact .inr (.inr rfl))) (das_cons (dv 1 rfl (by first | exact .inl rfl | exact .inr (.inl rfl) | exact .inr (.inr rfl))) das_nil rfl) rfl) rfl rfl rfl) (das_cons (de_call (ok_rest T) (hr.mono (by decide)) (by rfl) T.m_rest T.F_rest.kp (simple_rest T) (by decide) (das_cons (dv 0 rfl (by first | exact .inl rfl | exact .inr (.inl rfl) | exact .inr (.inr rfl))) (das_cons (dv 2 rfl (by first | exact .inl rfl | exact .inr (.inl rfl) | exact .inr (.inr rfl))) das_nil rfl) rfl) rfl rfl rfl) das_nil rfl) rfl) rfl) rfl rfl rfl)))))
    dss_nil)))))))))
theorem sc_is_lot : FnScope ["many", "value"] ["many", "value"] (defScope s_is_lot) := ⟨rfl, rfl, rfl, by decide +kernel, rfl, by decide +kernel, by decide +kernel⟩
theorem simple_is_lot (T : Top K mg) : Simple T.d_is_lot ["many", "value"] := simple_of T.F_is_lot rfl rfl rfl rfl rfl
theorem ok_is_lot (T : Top K mg) : FnG P w K mg base 5 T.a_is_lot T.d_is_lot ["many", "value"] (spD K 2 f_is_lot) := by
  have sc := sc_is_lot
  refine fnG_of (k := 4) T.F_is_lot sc rfl rfl (by decide) fun cdv A outer s H E hr => ?_
  have hg := hr.gd
  have hu := hu64 hr
  have hv := hu65 hr
  exact (dss_cons (ds_ret (de_call (ok_is_lot_of T) (hr.mono (by decide)) (by rfl) T.m_is_lot_of T.F_is_lot_of.kp (simple_is_lot_of T) (by decide) (das_cons (de_call (ok_want_many T) (hr.mono (by decide)) (by rfl) T.m_want_many T.F_want_many.kp (simple_want_many T) (by decide) (das_cons (dv 0 rfl (by first | exact .inl rfl | exact .inr (.inl rfl) | exact .inr (.inr rfl))) das_nil rfl) rfl rfl rfl) (das_cons (dv 1 rfl (by first | exact .inl rfl | exact .inr (.inl rfl) | exact .inr (.inr rfl))) das_nil rfl) rfl) rfl rfl rfl))
    dss_nil)
theorem sc_all_lots : FnScope ["many", "found", "column", "lot"] ["many"] (defScope s_all_lots) := ⟨rfl, rfl, rfl, by decide +kernel, rfl, by decide +kernel, by decide +kernel⟩
theorem simple_all_lots (T : Top K mg) : Simple T.d_all_lots ["many"] := simple_of T.F_all_lots rfl rfl rfl rfl rfl
theorem ok_all_lots (T : Top K mg) : FnG P w K mg base 1 T.a_all_lots T.d_all_lots ["many"] (spD K 1 f_all_lots) := by
  have sc := sc_all_lots
  refine fnG_of (k := 0) T.F_all_lots sc rfl rfl (by decide) fun cdv A outer s H E hr => ?_
  have hg := hr.gd
  have hu := hu64 hr
  have hv := hu65 hr
  exact (dss_cons (ds_set (i := 1) sc.nd rfl (by first | exact .inl rfl | exact .inr rfl) (.inl rfl) (de_lst (das_cons (de_tup das_nil) das_nil rfl)) rfl)
    (dss_cons (ds_for PassesOwn.never rfl (di_rng1 (by rfl) T.z_range (das_cons (dv 0 rfl (by first | exact .inl rfl | exact .inr (.inl rfl) | exact .inr (.inr rfl))) das_nil rfl) (len_cons len_nil) rfl) (dgs_name (i := 2) sc.nd rfl (by first | exact .inl rfl | exact .inr rfl) (by first | exact .inl rfl | exact .inr rfl)) (dss_cons (ds_set (i := 1) sc.nd rfl (by first | exact .inl rfl | exact .inr rfl) (.inl rfl) (de_add (dv 1 rfl (by first | exact .inl rfl | exact .inr (.inl rfl) | exact .inr (.inr rfl))) (de_lc (own := [("lot", 3)]) rfl sc.nd (di_seq (dv 1 rfl (by first | exact .inl rfl | exact .inr (.inl rfl) | exact .inr (.inr rfl)))) (blkOk_by (N := ["many", "found", "column", "lot"]) (sc := defScope s_all_lots) (by decide +kernel)) ⟨fun _ _ _ _ _ => (dg_name sc.nd (i := 3) rfl (by first | exact .inl rfl | exact .inr rfl) (by first | exact .inl rfl | exact .inr rfl)), fun _ _ _ _ _ => pts_yes, fun _ _ _ _ _ => (de_add (dv 3 rfl (by first | exact .inl rfl | exact .inr (.inl rfl) | exact .inr (.inr rfl))) (de_tup (das_cons (dv 2 rfl (by first | exact .inl rfl | exact .inr (.inl rfl) | exact .inr (.inr rfl))) das_nil rfl)))⟩ (by decide) (fun _ => rfl))) rfl)
    dss_nil) (fun _ => rfl))
    (dss_cons (ds_ret (de_sorted hu (T.b_sorted (by rfl)) (das_cons (dv 1 rfl (by first | exact .inl rfl | exact .inr (.inl rfl) | exact .inr (.inr rfl))) das_nil rfl) rfl rfl))
    dss_nil)))
theorem sc_lots : FnScope ["many"] ["many"] (defScope s_lots) := ⟨rfl, rfl, rfl, by decide +kernel, rfl, by decide +kernel, by decide +kernel⟩
theorem simple_lots (T : Top K mg) : Simple T.d_lots ["many"] := simple_of T.F_lots rfl rfl rfl rfl rfl
theorem ok_lots (T : Top K mg) : FnG P w K mg base 4 T.a_lots T.d_lots ["many"] (spD K 1 f_lots) := by
  have sc := sc_lots
  refine fnG_of (k := 3) T.F_lots sc rfl rfl (by decide) fun cdv A outer s H E hr => ?_
  have hg := hr.gd
  have hu := hu64 hr
  have hv := hu65 hr
  exact (dss_cons (ds_ret (de_call (ok_all_lots T) (hr.mono (by decide)) (by rfl) T.m_all_lots T.F_all_lots.kp (simple_all_lots T) (by decide) (das_cons (de_call (ok_want_many T) (hr.mono (by decide)) (by rfl) T.m_want_many T.F_want_many.kp (simple_want_many T) (by decide) (das_cons (dv 0 rfl (by first | exact .inl rfl | exact .inr (.inl rfl) | exact .inr (.inr rfl))) das_nil rfl) rfl rfl rfl) das_nil rfl) rfl rfl rfl))
    dss_nil)
theorem sc__law_right : FnScope ["pot", "many", "every", "turn", "lot", "other", "value"] ["pot"] (defScope s__law_right) := ⟨rfl, rfl, rfl, by decide +kernel, rfl, by decide +kernel, by decide +kernel⟩
theorem simple__law_right (T : Top K mg) : Simple T.d__law_right ["pot"] := simple_of T.F__law_right rfl rfl rfl rfl rfl
theorem ok__law_right (T : Top K mg) : FnG P w K mg base 9 T.a__law_right T.d__law_right ["pot"] (spD K 1 f__law_right) := by
  have sc := sc__law_right
  refine fnG_of (k := 8) T.F__law_right sc rfl rfl (by decide) fun cdv A outer s H E hr => ?_
  have hg := hr.gd
  have hu := hu64 hr
  have hv := hu65 hr
  exact (dss_cons (ds_set (i := 1) sc.nd rfl (by first | exact .inl rfl | exact .inr rfl) (.inl rfl) (de_add de_int (de_call (ok__law_draw T) (hr.mono (by decide)) (by rfl) T.m__law_draw T.F__law_draw.kp (simple__law_draw T) (by decide) (das_cons (dv 0 rfl (by first | exact .inl rfl | exact .inr (.inl rfl) | exact .inr (.inr rfl))) (das_cons de_int das_nil rfl) rfl) rfl rfl rfl)) rfl)
    (dss_cons (ds_set (i := 2) sc.nd rfl (by first | exact .inl rfl | exact .inr rfl) (.inl rfl) (de_call (ok__law_lots T) (hr.mono (by decide)) (by rfl) T.m__law_lots T.F__law_lots.kp (simple__law_lots T) (by decide) (das_cons (dv 1 rfl (by first | exact .inl rfl | exact .inr (.inl rfl) | exact .inr (.inr rfl))) das_nil rfl) rfl rfl rfl) rfl)
    (dss_cons (ds_if (DW.dt (dw_or (dt_ne hu (de_call (ok_lots T) (hr.mono (by decide)) (by rfl) T.m_lots T.F_lots.kp (simple_lots T) (by decide) (das_cons (dv 1 rfl (by first | exact .inl rfl | exact .inr (.inl rfl) | exact .inr (.inr rfl))) das_nil rfl) rfl rfl rfl) (dv 2 rfl (by first | exact .inl rfl | exact .inr (.inl rfl) | exact .inr (.inr rfl)))) (dw_or (dt_ne hu (de_callK0 (ok_lots T) (hr.mono (by decide)) (by rfl) T.m_lots T.F_lots.kp (simple_lots T) (dks_cons (dv 1 rfl (by first | exact .inl rfl | exact .inr (.inl rfl) | exact .inr (.inr rfl))) dks_nil) (by decide) rfl rfl rfl (len_cons len_nil) rfl rfl) (de_sorted hu (T.b_sorted (by rfl)) (das_cons (dv 2 rfl (by first | exact .inl rfl | exact .inr (.inl rfl) | exact .inr (.inr rfl))) das_nil rfl) rfl rfl)) (dw_or1 (dt_ne hu (de_len (T.b_len (by rfl)) (das_cons (de_call (ok_lots T) (hr.mono (by decide)) (by rfl) T.m_lots T.F_lots.kp (simple_lots T) (by decide) (das_cons (dv 1 rfl (by first | exact .inl rfl | exact .inr (.inl rfl) | exact .inr (.inr rfl))) das_nil rfl) rfl rfl rfl) das_nil rfl) rfl rfl) (de_at (fun _ _ => rfl) (de_lst (das_cons de_int (das_cons de_int (das_cons de_int (das_cons de_int (das_cons de_int (das_cons de_int (das_cons de_int (das_cons de_int (das_cons de_int (das_cons de_int das_nil rfl) rfl) rfl) rfl) rfl) rfl) rfl) rfl) rfl) rfl)) (dv 1 rfl (by first | exact .inl rfl | exact .inr (.inl rfl) | exact .inr (.inr rfl))))))))) (dss_cons (ds_ret de_bool)
    dss_nil) dss_nil)
    (dss_cons (ds_for PassesOwn.never rfl (di_rng1 (by rfl) T.z_range (das_cons de_int das_nil rfl) (len_cons len_nil) rfl) (dgs_name (i := 3) sc.nd rfl (by first | exact .inl rfl | exact .inr rfl) (by first | exact .inl rfl | exact .inr rfl)) (dss_cons (ds_par (i := 4) (j := 5) rfl sc.nd rfl rfl (by decide) rfl rfl (das_cons (de_call (ok__law_pick T) (hr.mono (by decide)) (by rfl) T.m__law_pick T.F__law_pick.kp (simple__law_pick T) (by decide) (das_cons (dv 0 rfl (by first | exact .inl rfl | exact .inr (.inl rfl) | exact .inr (.inr rfl))) (das_cons (dv 2 rfl (by first | exact .inl rfl | exact .inr (.inl rfl) | exact .inr (.inr rfl))) das_nil rfl) rfl) rfl rfl rfl) (das_cons (de_call (ok__law_pick T) (hr.mono (by decide)) (by rfl) T.m__law_pick T.F__law_pick.kp (simple__law_pick T) (by decide) (das_cons (dv 0 rfl (by first | exact .inl rfl | exact .inr (.inl rfl) | exact .inr (.inr rfl))) (das_cons (dv 2 rfl (by first | exact .inl rfl | exact .inr (.inl rfl) | exact .inr (.inr rfl))) das_nil rfl) rfl) rfl rfl rfl) das_nil rfl) rfl) rfl rfl)
    (dss_cons (ds_if (DW.dt (dw_or (dt_not (dt_val (de_call (ok__law_two_right T) (hr.mono (by decide)) (by rfl) T.m__law_two_right T.F__law_two_right.kp (simple__law_two_right T) (by decide) (das_cons (dv 1 rfl (by first | exact .inl rfl | exact .inr (.inl rfl) | exact .inr (.inr rfl))) (das_cons (dv 4 rfl (by first | exact .inl rfl | exact .inr (.inl rfl) | exact .inr (.inr rfl))) (das_cons (dv 5 rfl (by first | exact .inl rfl | exact .inr (.inl rfl) | exact .inr (.inr rfl))) das_nil rfl) rfl) rfl) rfl rfl rfl) (fun _ => rfl))) (dw_or1 (dt_not (dt_val (de_call (ok__law_two_right T) (hr.mono (by decide)) (by rfl) T.m__law_two_right T.F__law_two_right.kp (simple__law_two_right T) (by decide) (das_cons (dv 1 rfl (by first | exact .inl rfl | exact .inr (.inl rfl) | exact .inr (.inr rfl))) (das_cons (dv 4 rfl (by first | exact .inl rfl | exact .inr (.inl rfl) | exact .inr (.inr rfl))) (das_cons (dv 4 rfl (by first | exact .inl rfl | exact .inr (.inl rfl) | exact .inr (.inr rfl))) das_nil rfl) rfl) rfl) rfl rfl rfl) (fun _ => rfl)))))) (dss_cons (ds_ret de_bool)
    dss_nil) dss_nil)
    (dss_cons (ds_set (i := 6) sc.nd rfl (by first | exact .inl rfl | exact .inr rfl) (.inl rfl) (de_call (ok__law_any T) (hr.mono (by decide)) (by rfl) T.m__law_any T.F__law_any.kp (simple__law_any T) (by decide) (das_cons (dv 0 rfl (by first | exact .inl rfl | exact .inr (.inl rfl) | exact .inr (.inr rfl))) (das_cons (dv 1 rfl (by first | exact .inl rfl | exact .inr (.inl rfl) | exact .inr (.inr rfl))) das_nil rfl) rfl) rfl rfl rfl) rfl)
    (dss_cons (ds_if (dt_ne hu (de_lst (das_cons (de_call (ok_is_lot T) (hr.mono (by decide)) (by rfl) T.m_is_lot T.F_is_lot.kp (simple_is_lot T) (by decide) (das_cons (dv 1 rfl (by first | exact .inl rfl | exact .inr (.inl rfl) | exact .inr (.inr rfl))) (das_cons (dv 6 rfl (by first | exact .inl rfl | exact .inr (.inl rfl) | exact .inr (.inr rfl))) das_nil rfl) rfl) rfl rfl rfl) (das_cons (de_callK0 (ok_is_lot T) (hr.mono (by decide)) (by rfl) T.m_is_lot T.F_is_lot.kp (simple_is_lot T) (dks_cons (dv 6 rfl (by first | exact .inl rfl | exact .inr (.inl rfl) | exact .inr (.inr rfl))) (dks_cons (dv 1 rfl (by first | exact .inl rfl | exact .inr (.inl rfl) | exact .inr (.inr rfl))) dks_nil)) (by decide) rfl rfl rfl (len_cons (len_cons len_nil)) rfl rfl) (das_cons (de_call (ok_is_lot T) (hr.mono (by decide)) (by rfl) T.m_is_lot T.F_is_lot.kp (simple_is_lot T) (by decide) (das_cons (dv 1 rfl (by first | exact .inl rfl | exact .inr (.inl rfl) | exact .inr (.inr rfl))) (das_cons (dv 4 rfl (by first | exact .inl rfl | exact .inr (.inl rfl) | exact .inr (.inr rfl))) das_nil rfl) rfl) rfl rfl rfl) (das_cons (de_call (ok_is_lot T) (hr.mono (by decide)) (by rfl) T.m_is_lot T.F_is_lot.kp (simple_is_lot T) (by decide) (das_cons de_int (das_cons (dv 4 rfl (by first | exact .inl rfl | exact .inr (.inl rfl) | exact .inr (.inr rfl))) das_nil rfl) rfl) rfl rfl rfl) das_nil rfl) rfl) rfl) rfl)) (de_add (de_mul (de_lst (das_cons (de_call (ok__law_is_lot T) (hr.mono (by decide)) (by rfl) T.m__law_is_lot T.F__law_is_lot.kp (simple__law_is_lot T) (by decide) (das_cons (dv 1 rfl (by first | exact .inl rfl | exact .inr (.inl rfl) | exact .inr (.inr rfl))) (das_cons (dv 6 rfl (by first | exact .inl rfl | exact .inr (.inl rfl) | exact .inr (.inr rfl))) das_nil rfl) rfl) rfl rfl rfl) das_nil rfl)) de_int) (de_lst (das_cons de_bool (das_cons de_bool das_nil rfl) rfl)))) (dss_cons (ds_ret de_bool)
    dss_nil) dss_nil)
    dss_nil)))) (fun _ => rfl))
    (dss_cons (ds_ret de_bool)
    dss_nil)))))
theorem sc_law : FnScope ["script", "k"] ["script"] (defScope s_law) := ⟨rfl, rfl, rfl, by decide +kernel, rfl, by decide +kernel, by decide +kernel⟩
theorem simple_law (T : Top K mg) : Simple T.d_law ["script"] := simple_of T.F_law rfl rfl rfl rfl rfl
theorem ok_law (T : Top K mg) : FnG P w K mg base 10 T.a_law T.d_law ["script"] (spD K 1 f_law) := by
  have sc := sc_law
  refine fnG_of (k := 9) T.F_law sc rfl rfl (by decide) fun cdv A outer s H E hr => ?_
  have hg := hr.gd
  have hu := hu64 hr
  have hv := hu65 hr
  exact (dss_cons (ds_ret (de_all rfl (T.b_all (by rfl)) (das_cons (de_lc (own := [("k", 1)]) rfl sc.nd (di_rng1 (by rfl) T.z_range (das_cons (de_max2 rfl (T.b_max (by rfl)) (das_cons de_int (das_cons (de_min2 rfl (T.b_min (by rfl)) (das_cons de_int (das_cons (de_len (T.b_len (by rfl)) (das_cons (dv 0 rfl (by first | exact .inl rfl | exact .inr (.inl rfl) | exact .inr (.inr rfl))) das_nil rfl) rfl rfl) das_nil rfl) rfl) rfl rfl) das_nil rfl) rfl) rfl rfl) das_nil rfl) (len_cons len_nil) rfl) (blkOk_by (N := ["script", "k"]) (sc := defScope s_law) (by decide +kernel)) ⟨fun _ _ _ _ _ => (dg_name sc.nd (i := 1) rfl (by first | exact .inl rfl | exact .inr rfl) (by first | exact .inl rfl | exact .inr rfl)), fun _ _ _ _ _ => pts_yes, fun _ _ _ _ _ => (de_call (ok__law_right T) (hr.mono (by decide)) (by rfl) T.m__law_right T.F__law_right.kp (simple__law_right T) (by decide) (das_cons (de_call (ok__law_pot T) (hr.mono (by decide)) (by rfl) T.m__law_pot T.F__law_pot.kp (simple__law_pot T) (by decide) (das_cons (dv 0 rfl (by first | exact .inl rfl | exact .inr (.inl rfl) | exact .inr (.inr rfl))) (das_cons (dv 1 rfl (by first | exact .inl rfl | exact .inr (.inl rfl) | exact .inr (.inr rfl))) das_nil rfl) rfl) rfl rfl rfl) das_nil rfl) rfl rfl rfl)⟩ (by decide) (fun _ => rfl)) das_nil rfl) rfl rfl))
    dss_nil)
end
end K12

namespace K12
open PySem DL
open L2 (CDivP CMul atI ixN CPow)
abbrev pot (a b : Int) : SV := .own [.int a, .int b]
theorem draw_ok (a b m : Int) (h1 : 0 < m) (h2 : m < 2 ^ 29) : ∃ a' b' k, f__law_draw [pot a b, .d (.int m)] = some (.d (.int k), [pot a' b', .d (.int m)]) ∧ 0 ≤ k ∧ k < m := by
  have hd : ∀ i, CDivP i m := fun i => div_ok h1 h2
  by_cases ha : 0 < a
  · refine ⟨a / m, b, a % m, ?_, Int.emod_nonneg _ (by omega), Int.emod_lt_of_pos _ h1⟩
    unfold f__law_draw
    refine (fn_rt (r := .d (.int (a % m))) (ρ' := [some (pot (a / m) b), some (.d (.int m)), some (.d (.int (a % m)))]) rfl rfl rfl ?_).trans rfl
    simp [c__law_draw, ev_sif, gGt, gI2, oB, gIx, atI, ixN, slotD, gDvm, gAt, ha, hd]
  · refine ⟨a, (b * 40295 + 1465) % 2147483587, ((b * 40295 + 1465) % 2147483587 * ((b * 40295 + 1465) % 2147483587)) % 2147483563 / 29 % m, ?_, Int.emod_nonneg _ (by omega), Int.emod_lt_of_pos _ h1⟩
    unfold f__law_draw
    refine (fn_rt (r := .d (.int (((b * 40295 + 1465) % 2147483587 * ((b * 40295 + 1465) % 2147483587)) % 2147483563 / 29 % m))) (ρ' := [some (pot a ((b * 40295 + 1465) % 2147483587)), some (.d (.int m)), none]) rfl rfl rfl ?_).trans rfl
    have hb : CMul ((b * 40295 + 1465) % 2147483587) ((b * 40295 + 1465) % 2147483587) := by
      refine mul_k ?_ ?_
      · have := Int.emod_nonneg (b * 40295 + 1465) (b := 2147483587) (by omega)
        omega
      · have := Int.emod_lt_of_pos (b * 40295 + 1465) (b := 2147483587) (by omega)
        omega
    have hc : CMul b 40295 := mul_k (by omega) (by omega)
    have hd2 : ∀ i, CDivP i 29 := fun i => div_ok (by omega) (by omega)
    simp [c__law_draw, ev_sif, gGt, gI2, oB, oI, gIx, atI, ixN, slotD, gAt, ha, hd2, gMul, gAdd, gMod, gFdv, gInt, hb, hc, h1]
theorem ix_some {xs : List PyData} {k : Int} (h0 : 0 ≤ k) (h1 : k < xs.length) : ∃ x ∈ xs, atI xs k = some x := by
  have hn : k.toNat < xs.length := by omega
  refine ⟨xs[k.toNat], List.getElem_mem hn, ?_⟩
  unfold atI ixN
  rw [if_pos h0, if_pos h1]
  exact List.getElem?_eq_getElem hn
theorem pick_ok (a b : Int) (xs : List PyData) (h1 : xs ≠ []) (h2 : xs.length < 2 ^ 29) : ∃ a' b' x, f__law_pick [pot a b, .d (.list xs)] = some (.d x, [pot a' b', .d (.list xs)]) ∧ x ∈ xs := by
  have h0 : 0 < xs.length := List.length_pos_iff.mpr h1
  obtain ⟨a', b', k, e, k1, k2⟩ := draw_ok a b xs.length (by omega) (by omega)
  obtain ⟨x, hx, ex⟩ := ix_some k1 k2
  refine ⟨a', b', x, ?_, hx⟩
  unfold f__law_pick
  refine (fn_rt (r := .d x) (ρ' := [some (pot a' b'), some (.d (.list xs))]) rfl rfl rfl ?_).trans rfl
  simp [c__law_pick, gLen, oI, e, gIx, ex]
/-! ### any value -/
theorem any_ok (a b m : Int) (h1 : 0 < m) (h2 : m ≤ 9) : ∃ a' b' v, f__law_any [pot a b, .d (.int m)] = some (.d v, [pot a' b', .d (.int m)]) ∧ ∀ xs, v = .tuple xs → xs.length ≤ 1000 := by
  obtain ⟨a1, b1, k, e1, k1, k2⟩ := draw_ok a b 4 (by omega) (by omega)
  -- the numbers drawn
  have hlc := lc_inv (ρ := [some (pot a b), some (.d (.int m)), none, none]) (is := [3]) (b := .name 3) (ct := cYes) (r := .d .none)
    (ci := cRng (cCons (cCall 2 f__law_draw [true, false] (cCons (cVar 0) (cCons (cCst (.int 4)) cNil))) cNil))
    (ce := cOp2 gSub (cCall 2 f__law_draw [true, false] (cCons (cVar 0) (cCons (cOp2 gAdd (cVar 1) (cCst (.int 2))) cNil))) (cCst (.int 1)))
    (ds := numsD 0 k.toNat) (ρ1 := [some (pot a1 b1), some (.d (.int m)), none, none]) (ρL := [some (pot a1 b1), some (.d (.int m)), none, none])
    (I := fun ρ => ∃ a b, ρ = [some (pot a b), some (.d (.int m)), none, none]) (J := fun ρ => ∃ a b, ρ = [some (pot a b), some (.d (.int m)), none, none]) (R := fun x => ∃ i, x = .int i)
    (by
      simp [cRng, e1]
      omega) rfl rfl ⟨a1, b1, rfl⟩ (fun d hd ρ ⟨a, b, hρ⟩ => by
        subst hρ
        obtain ⟨a2, b2, j, e2, j1, j2⟩ := draw_ok a b (m + 2) (by omega) (by omega)
        refine ⟨_, .d (.int (j - 1)), [some (pot a2 b2), some (.d (.int m)), none, some (.d d)], .int (j - 1), rfl, rfl, ?_, rfl, ⟨_, rfl⟩, rfl, a2, b2, rfl⟩
        simp [gAdd, oI, e2, gSub, gI2]) (by rw [numsD_len]; exact small_le (by omega)) (fun ρ2 ⟨a, b, h⟩ => ⟨_, by rw [h]; rfl, a, b, rfl⟩)
  obtain ⟨xs, ρ3, e3, e4, e5, a3, b3, rfl⟩ := hlc
  have hx : ∃ ns : List Int, xs = ns.map .int := by
    clear e3 e4
    induction xs with
    | nil => exact ⟨[], rfl⟩
    | cons x xs ih =>
      obtain ⟨i, rfl⟩ := e5 x List.mem_cons_self
      obtain ⟨ns, rfl⟩ := ih fun y m => e5 y (List.mem_cons_of_mem _ m)
      exact ⟨i :: ns, rfl⟩
  obtain ⟨ns, rfl⟩ := hx
  have hl : ns.length ≤ 3 := by
    rw [List.length_map, numsD_len] at e4
    omega
  obtain ⟨a4, b4, v, e6, hv⟩ := pick_ok a3 b3 [tuI ns, .tuple ((sortI ns).map .int), .list (ns.map .int), .tuple (ns.map .int ++ [.bool true]), .tuple (.bool false :: ns.map .int), .tuple (ns.map .int ++ [.none]), .tuple (ns.map .int ++ [.str "0"]), .tuple (ns.map .int ++ ns.map .int), .tuple [], .none, .int 0, .str "0", .dict [], .tuple [tuI ns]] (by simp) (by simp)
  have sl : ∀ l : List Int, (sortI l).length ≤ l.length := fun l => by
    have ins : ∀ (x : Int) (l : List Int), (insI x l).length ≤ l.length + 1 := fun x l => by
      induction l with
      | nil => exact Nat.le_refl _
      | cons y l ih =>
        unfold insI
        split
        · exact Nat.le_refl _
        · split
          · exact Nat.le_succ _
          · exact Nat.succ_le_succ ih
    induction l with
    | nil => exact Nat.le_refl _
    | cons x l ih => exact Nat.le_trans (ins x _) (Nat.succ_le_succ ih)
  refine ⟨a4, b4, v, ?_, fun xs e => ?_⟩
  rotate_left
  · have := sl ns
    subst e
    simp only [List.mem_cons, PyData.tuple.injEq, reduceCtorEq, false_or, or_false, List.not_mem_nil] at hv
    rcases hv with h | h | h | h | h | h | h | h | h <;> (subst h; simp; try omega)
  unfold f__law_any
  refine (fn_rt (r := .d v) (ρ' := [some (pot a4 b4), some (.d (.int m)), some (.d (tuI ns)), none]) rfl rfl rfl ?_).trans rfl
  have s1 : ns.length + 1 ≤ sizeLine := small_le (by omega)
  have s2 : 1 + ns.length ≤ sizeLine := small_le (by omega)
  have s3 : ns.length < 64 := by omega
  have s4 : ns.length ≤ 1000 := by omega
  have s5 : (1 : Nat) ≤ sizeLine := small_le (by omega)
  have s6 : (14 : Nat) ≤ sizeLine := small_le (by omega)
  have s7 : (0 : Nat) ≤ sizeLine := small_le (by omega)
  simp [c__law_any, e3, gTuple, gSS, ints_map, gList, gAdd, gMul, s1, s2, s3, s4, s5, s6, s7, e6]
end K12

namespace K12
open PySem DL
open L2 (CDivP CMul atI ixN CPow)
/-! ### lots -/
def inR (lo hi : Int) : PyData → Bool
  | .int i => decide (lo ≤ i) && decide (i ≤ hi)
  | _ => false
def isI : PyData → Bool
  | .int _ => true
  | _ => false
def risB : List Int → Bool
  | x :: y :: r => decide (x < y) && risB (y :: r)
  | _ => true
def intsOf : List PyData → List Int
  | .int i :: r => i :: intsOf r
  | _ :: r => intsOf r
  | [] => []
def lotB (m : Int) : PyData → Bool
  | .tuple xs => xs.all (inR 0 (m - 1)) && risB (intsOf xs)
  | _ => false
theorem integer_ok (x : PyData) : f_is_integer [.d x] = some (.d (.bool (isI x)), [.d x]) := by
  unfold f_is_integer
  refine fn_e rfl rfl rfl rfl ?_
  cases x <;> simp [c_is_integer, ev_and, ev_not, gIsi, oB, isT, tyName, isI]
theorem within_ok (x : PyData) (lo hi : Int) : f_is_within [.d x, .d (.int lo), .d (.int hi)] = some (.d (.bool (inR lo hi x)), [.d x, .d (.int lo), .d (.int hi)]) := by
  unfold f_is_within
  refine fn_e rfl rfl rfl rfl ?_
  cases x with
  | int i =>
    by_cases h : lo ≤ i
    · simp [c_is_within, ev_and, ev_chain, integer_ok, isI, gLe, gI2, oB, inR, h]
    · simp [c_is_within, ev_and, ev_chain, integer_ok, isI, gLe, gI2, oB, inR, h]
  | _ => simp [c_is_within, ev_and, integer_ok, isI, inR]
theorem cut_tail (xs : List PyData) : cutA xs (some 1) none = xs.drop 1 := by
  unfold cutA
  rw [show HT.sIx xs.length 0 (some 1) = min 1 xs.length from HT.sIx_nat xs.length 0 1, HT.sIx_none]
  cases xs with
  | nil => rfl
  | cons x r =>
    rw [show min 1 (x :: r).length = 1 by rw [List.length_cons]; omega]
    show (List.take ((x :: r).length - 1) r) = r
    rw [List.length_cons, Nat.add_sub_cancel]
    exact List.take_length
theorem all_id (bs : List Bool) : bs.all id = bs.all fun b => b := rfl
def prF : PyData → PyData
  | .tuple [.int i, .int j] => .bool (decide (i < j))
  | _ => .none
/-- near < far for all neighbours -/
theorem pairs_ris : ∀ (ns : List Int), ∃ bs : List Bool, (pairsD (ns.map .int) ((ns.map .int).drop 1)).map prF = bs.map .bool ∧ bs.all id = risB ns
  | [] => ⟨[], rfl, rfl⟩
  | [x] => ⟨[], rfl, rfl⟩
  | x :: y :: r => by
    obtain ⟨bs, h1, h2⟩ := pairs_ris (y :: r)
    refine ⟨decide (x < y) :: bs, ?_, ?_⟩
    · show prF (.tuple [.int x, .int y]) :: (pairsD ((y :: r).map .int) (((y :: r).map .int).drop 1)).map prF = _
      rw [h1]
      rfl
    · rw [List.all_cons, h2]
      rfl
theorem pairs_mem : ∀ {ns ms : List Int} {d : PyData}, d ∈ pairsD (ns.map .int) (ms.map .int) → ∃ i j, d = .tuple [.int i, .int j]
  | [], _, _, h => by simp [pairsD] at h
  | _ :: _, [], _, h => by simp [pairsD] at h
  | n :: ns, m :: ms, d, h => by
    rw [List.map_cons, List.map_cons, pairsD] at h
    rcases List.mem_cons.mp h with rfl | h
    · exact ⟨n, m, rfl⟩
    · exact pairs_mem h
theorem rising_ok (ns : List Int) (hl : ns.length ≤ 1000) : f_is_rising [.d (tuI ns)] = some (.d (.bool (risB ns)), [.d (tuI ns)]) := by
  unfold f_is_rising
  refine fn_e rfl rfl rfl rfl ?_
  have hlc := lc_pure (ρ := [some (.d (tuI ns)), none, none]) (ρ1 := [some (.d (tuI ns)), none, none]) (ρL := [some (.d (tuI ns)), none, none]) (ρ0 := [some (.d (tuI ns)), none, none]) (ρ3 := [some (.d (tuI ns)), none, none]) (is := [1, 2]) (b := .tup [1, 2]) (ct := cYes) (r := .d .none)
    (ci := cZip (cCons (cVar 0) (cCons (cSl (cVar 0) (oSo (cCst (.int 1))) oNo) cNil))) (ce := cOp2 gLt (cVar 1) (cVar 2)) (ds := pairsD (ns.map .int) ((ns.map .int).drop 1)) (fun _ => true) prF (by simp [cZip, cSl, oSo, oNo, gCut, cut_tail]) rfl rfl rfl (fun d hd => by
      rw [← List.map_drop] at hd
      obtain ⟨i, j, rfl⟩ := pairs_mem hd
      refine ⟨[some (.d (tuI ns)), some (.d (.int i)), some (.d (.int j))], rfl, rfl, fun _ => ⟨.d (.bool (decide (i < j))), by simp [gLt, gI2, oB], rfl⟩, rfl, rfl⟩)
    (by rw [pairsD_len, List.length_map]; exact small_le (by omega)) rfl
  obtain ⟨bs, h1, h2⟩ := pairs_ris ns
  have hf : ∀ l : List PyData, l.filter (fun _ => true) = l := fun l => List.filter_eq_self.mpr fun _ _ => rfl
  rw [hf, h1] at hlc
  simp [c_is_rising, hlc, gAll, bools_map, oB, ← h2]
theorem intsOf_all : ∀ {xs : List PyData} {lo hi : Int}, xs.all (inR lo hi) = true → xs = (intsOf xs).map .int
  | [], _, _, _ => rfl
  | x :: xs, lo, hi, h => by
    rw [List.all_cons, Bool.and_eq_true] at h
    cases x with
    | int i =>
      show _ = PyData.int i :: (intsOf xs).map .int
      rw [← intsOf_all h.2]
    | _ => simp [inR] at h
theorem below_ok (x : PyData) (m : Int) (hl : ∀ xs, x = .tuple xs → xs.length ≤ 1000) : f_are_counts_below [.d x, .d (.int m)] = some (.d (.bool (lotB m x)), [.d x, .d (.int m)]) := by
  unfold f_are_counts_below
  refine fn_e rfl rfl rfl rfl ?_
  cases x with
  | tuple xs =>
    have hx := hl xs rfl
    have hlc := lc_pure (ρ := [some (.d (.tuple xs)), some (.d (.int m)), none]) (ρ1 := [some (.d (.tuple xs)), some (.d (.int m)), none]) (ρL := [some (.d (.tuple xs)), some (.d (.int m)), none]) (ρ0 := [some (.d (.tuple xs)), some (.d (.int m)), none]) (ρ3 := [some (.d (.tuple xs)), some (.d (.int m)), none])
      (is := [2]) (b := .name 2) (ct := cYes) (r := .d .none) (ci := cSeq (cVar 0)) (ce := cCall 3 f_is_within [false, false, false] (cCons (cVar 2) (cCons (cCst (.int 0)) (cCons (cOp2 gSub (cVar 1) (cCst (.int 1))) cNil)))) (ds := xs) (fun _ => true) (fun z => .bool (inR 0 (m - 1) z))
      (by simp [cSeq]) rfl rfl rfl (fun d hd => ⟨[some (.d (.tuple xs)), some (.d (.int m)), some (.d d)], rfl, rfl, fun _ => ⟨.d (.bool (inR 0 (m - 1) d)), by simp [gSub, gI2, oI, within_ok], rfl⟩, rfl, rfl⟩) (small_le (by omega)) rfl
    have hf : ∀ l : List PyData, l.filter (fun _ => true) = l := fun l => List.filter_eq_self.mpr fun _ _ => rfl
    rw [hf] at hlc
    have hb : boolsD (xs.map fun z => .bool (inR 0 (m - 1) z)) = some (xs.map (inR 0 (m - 1))) := by
      rw [← bools_map, List.map_map]
      rfl
    have ha : (xs.map (inR 0 (m - 1))).all id = xs.all (inR 0 (m - 1)) := by
      rw [List.all_map]
      rfl
    cases q : xs.all (inR 0 (m - 1)) with
    | true =>
      have e := intsOf_all q
      have hr := rising_ok (intsOf xs) (by have := congrArg List.length e; rw [List.length_map] at this; omega)
      have hr' : f_is_rising [.d (.tuple xs)] = some (.d (.bool (risB (intsOf xs))), [.d (.tuple xs)]) := by
        rw [show (PyData.tuple xs) = tuI (intsOf xs) from congrArg PyData.tuple e]
        exact hr
      simp [c_are_counts_below, ev_and, gIsi, oB, isT, tyName, hlc, gAll, hb, ha, q, hr', lotB]
    | false =>
      simp [c_are_counts_below, ev_and, gIsi, oB, isT, tyName, hlc, gAll, hb, ha, q, lotB]
  | _ => simp [c_are_counts_below, ev_and, gIsi, oB, isT, tyName, lotB]
end K12

namespace K12
open PySem DL
open L2 (CDivP CMul atI ixN CPow)
def Ris (m : Int) (l : List Int) : Prop := l.Pairwise (· < ·) ∧ ∀ k ∈ l, 0 ≤ k ∧ k < m
theorem risB_iff : ∀ (l : List Int), risB l = true ↔ l.Pairwise (· < ·)
  | [] => by simp [risB]
  | [x] => by simp [risB]
  | x :: y :: r => by
    have ih := risB_iff (y :: r)
    rw [risB, Bool.and_eq_true, ih, List.pairwise_cons (a := x), decide_eq_true_eq]
    constructor
    · rintro ⟨h1, h2⟩
      refine ⟨fun z hz => ?_, h2⟩
      rcases List.mem_cons.mp hz with rfl | hz
      · exact h1
      · exact Int.lt_trans h1 ((List.pairwise_cons.mp h2).1 z hz)
    · rintro ⟨h1, h2⟩
      exact ⟨h1 y List.mem_cons_self, h2⟩
theorem intsOf_map : ∀ (l : List Int), intsOf (l.map .int) = l
  | [] => rfl
  | x :: l => by
    show x :: intsOf (l.map .int) = _
    rw [intsOf_map l]
theorem lotB_iff {m : Int} {l : List Int} : lotB m (tuI l) = true ↔ Ris m l := by
  show ((l.map PyData.int).all (inR 0 (m - 1)) && risB (intsOf (l.map .int))) = true ↔ _
  rw [Bool.and_eq_true, intsOf_map, risB_iff, List.all_map, List.all_eq_true]
  unfold Ris
  constructor
  · rintro ⟨h1, h2⟩
    refine ⟨h2, fun k hk => ?_⟩
    have := h1 k hk
    simp [inR] at this
    omega
  · rintro ⟨h1, h2⟩
    refine ⟨fun k hk => ?_, h1⟩
    have := h2 k hk
    simp [inR]
    omega
theorem ris_len0 : ∀ (l : List Int) (lo m : Int), l.Pairwise (· < ·) → (∀ k ∈ l, lo ≤ k ∧ k < m) → l.length ≤ (m - lo).toNat
  | [], _, _, _, _ => Nat.zero_le _
  | x :: l, lo, m, h, hb => by
    have h1 := hb x List.mem_cons_self
    have a := List.pairwise_cons.mp h
    have := ris_len0 l (x + 1) m a.2 fun k hk => by
      have := a.1 k hk
      have := hb k (List.mem_cons_of_mem _ hk)
      omega
    rw [List.length_cons]
    omega
theorem Ris.len {m : Int} {l : List Int} (h : Ris m l) (hm : m ≤ 9) : l.length ≤ 9 := by
  have := ris_len0 l 0 m h.1 h.2
  omega
theorem Ris.eq {m n : Int} {l k : List Int} (h1 : Ris m l) (h2 : Ris n k) (h : ∀ x, x ∈ l ↔ x ∈ k) : l = k := sorted_uniq h1.1 h2.1 h
theorem Ris.filter {m : Int} {l : List Int} (h : Ris m l) (p : Int → Bool) : Ris m (l.filter p) := ⟨h.1.sublist List.filter_sublist, fun k hk => h.2 k (List.mem_filter.mp hk).1⟩
theorem Ris.sort {m : Int} {l k : List Int} (h1 : Ris m l) (h2 : Ris m k) : Ris m (sortI (l ++ k)) := ⟨sortI_sorted _, fun x hx => by
  rw [sortI_mem, List.mem_append] at hx
  exact hx.elim (h1.2 x) (h2.2 x)⟩
theorem Ris.range (m : Int) : Ris m (rangeI m) := ⟨rangeI_sorted m, fun k hk => rangeI_mem.mp hk⟩
theorem Ris.up {m n : Int} {l : List Int} (h : Ris m l) (hn : m ≤ n) : Ris n l := ⟨h.1, fun k hk => by have := h.2 k hk; omega⟩
/-! ### the program's functions over lots -/
section
variable {m : Int} {l o : List Int}
theorem lotof_ok (x : PyData) (m : Int) (hl : ∀ xs, x = .tuple xs → xs.length ≤ 1000) : f_is_lot_of [.d (.int m), .d x] = some (.d (.bool (lotB m x)), [.d (.int m), .d x]) := by
  unfold f_is_lot_of
  refine fn_e rfl rfl rfl rfl ?_
  simp [c_is_lot_of, below_ok x m hl]
theorem many_ok (h1 : 1 ≤ m) (h2 : m ≤ 9) : f_want_many [.d (.int m)] = some (.d (.int m), [.d (.int m)]) := by
  unfold f_want_many
  refine fn_e rfl rfl rfl rfl ?_
  simp [c_want_many, ev_sif, ev_tnot, within_ok, inR, h1, h2]
theorem wlot_ok (h : Ris m l) (hm : m ≤ 9) : f_want_lot [.d (.int m), .d (tuI l)] = some (.d (tuI l), [.d (.int m), .d (tuI l)]) := by
  unfold f_want_lot
  refine fn_e rfl rfl rfl rfl ?_
  have e := lotof_ok (tuI l) m fun xs e => by
    cases e
    have := h.len hm
    rw [List.length_map]
    omega
  rw [lotB_iff.mpr h] at e
  simp [c_want_lot, ev_sif, ev_tnot, e]
theorem wother_ok (h : Ris m l) (hm : m ≤ 9) : f_want_other [.d (.int m), .d (tuI l)] = some (.d (tuI l), [.d (.int m), .d (tuI l)]) := by
  unfold f_want_other
  refine fn_e rfl rfl rfl rfl ?_
  have e := lotof_ok (tuI l) m fun xs e => by
    cases e
    have := h.len hm
    rw [List.length_map]
    omega
  rw [lotB_iff.mpr h] at e
  simp [c_want_other, ev_sif, ev_tnot, e]
theorem wtwo_ok (h1 : 1 ≤ m) (h2 : m ≤ 9) (hl : Ris m l) (ho : Ris m o) : f_want_two [.d (.int m), .d (tuI l), .d (tuI o)] = some (.d .none, [.d (.int m), .d (tuI l), .d (tuI o)]) := by
  unfold f_want_two
  refine fn_n rfl rfl rfl rfl ?_
  simp [c_want_two, many_ok h1 h2, wlot_ok hl h2, wother_ok ho h2]
theorem both_ok (hl : l.length ≤ 9) (ho : o.length ≤ 9) : f_both [.d (tuI l), .d (tuI o)] = some (.d (tuI (sortI (l ++ o))), [.d (tuI l), .d (tuI o)]) := by
  unfold f_both
  refine fn_e rfl rfl rfl rfl ?_
  have s1 : l.length + o.length ≤ sizeLine := small_le (by omega)
  have s2 : l.length + o.length < 64 := by omega
  have e : intsD (l.map .int ++ o.map .int) = some (l ++ o) := by
    rw [← List.map_append]
    exact ints_map _
  simp [c_both, gAdd, gSS, gTuple, s1, s2, e]
/-- tuple([column for column in X if column in / not in Y]) -/
theorem filt_map (p : Int → Bool) (l : List Int) (t : PyData → Bool) (h : ∀ k, t (.int k) = p k) : ((l.map PyData.int).filter t).map id = (l.filter p).map .int := by
  rw [List.map_id, List.filter_map]
  congr 1
  refine List.filter_congr fun k _ => ?_
  exact h k
def inT (neg : Bool) (o : List Int) : PyData → Bool
  | .int k => neg ^^ decide (k ∈ o)
  | _ => false
theorem mem_int {l : List Int} {d : PyData} (h : d ∈ l.map PyData.int) : ∃ k ∈ l, d = .int k := by
  obtain ⟨k, hk, e⟩ := List.mem_map.mp h
  exact ⟨k, hk, e.symm⟩
theorem shared_ok (hl : l.length ≤ 9) : f_shared [.d (tuI l), .d (tuI o)] = some (.d (tuI (l.filter fun k => decide (k ∈ o))), [.d (tuI l), .d (tuI o)]) := by
  unfold f_shared
  refine fn_e rfl rfl rfl rfl ?_
  have hlc := lc_pure (ρ := [some (.d (tuI l)), some (.d (tuI o)), none]) (ρ1 := [some (.d (tuI l)), some (.d (tuI o)), none]) (ρL := [some (.d (tuI l)), some (.d (tuI o)), none]) (ρ0 := [some (.d (tuI l)), some (.d (tuI o)), none]) (ρ3 := [some (.d (tuI l)), some (.d (tuI o)), none])
    (is := [2]) (b := .name 2) (r := .d .none) (ci := cSeq (cVar 0)) (ct := cTst (cOp2 (gIn false) (cVar 2) (cVar 1))) (ce := cVar 2) (ds := l.map .int) (inT false o) id
    (by simp [cSeq]) rfl rfl rfl (fun d hd => by
      obtain ⟨k, _, rfl⟩ := mem_int hd
      exact ⟨[some (.d (tuI l)), some (.d (tuI o)), some (.d (.int k))], rfl, by simp [gIn_tuI, inT], fun _ => ⟨.d (.int k), by simp, rfl⟩, rfl, rfl⟩) (by rw [List.length_map]; exact small_le (by omega)) rfl
  rw [filt_map (fun k => decide (k ∈ o)) l _ (fun k => by simp [inT])] at hlc
  simp [c_shared, hlc, gTuple]
theorem left_ok (hl : l.length ≤ 9) : f_left_out [.d (tuI l), .d (tuI o)] = some (.d (tuI (l.filter fun k => !decide (k ∈ o))), [.d (tuI l), .d (tuI o)]) := by
  unfold f_left_out
  refine fn_e rfl rfl rfl rfl ?_
  have hlc := lc_pure (ρ := [some (.d (tuI l)), some (.d (tuI o)), none]) (ρ1 := [some (.d (tuI l)), some (.d (tuI o)), none]) (ρL := [some (.d (tuI l)), some (.d (tuI o)), none]) (ρ0 := [some (.d (tuI l)), some (.d (tuI o)), none]) (ρ3 := [some (.d (tuI l)), some (.d (tuI o)), none])
    (is := [2]) (b := .name 2) (r := .d .none) (ci := cSeq (cVar 0)) (ct := cTst (cOp2 (gIn true) (cVar 2) (cVar 1))) (ce := cVar 2) (ds := l.map .int) (inT true o) id
    (by simp [cSeq]) rfl rfl rfl (fun d hd => by
      obtain ⟨k, _, rfl⟩ := mem_int hd
      exact ⟨[some (.d (tuI l)), some (.d (tuI o)), some (.d (.int k))], rfl, by simp [gIn_tuI, inT], fun _ => ⟨.d (.int k), by simp, rfl⟩, rfl, rfl⟩) (by rw [List.length_map]; exact small_le (by omega)) rfl
  rw [filt_map (fun k => !decide (k ∈ o)) l _ (fun k => by simp [inT])] at hlc
  simp [c_left_out, hlc, gTuple]
theorem rangeI_len9 (h2 : m ≤ 9) : (numsD 0 m.toNat).length ≤ sizeLine := by
  rw [numsD_len]
  exact small_le (by omega)
theorem restof_ok (h1 : 1 ≤ m) (h2 : m ≤ 9) : f_rest_of [.d (.int m), .d (tuI o)] = some (.d (tuI ((rangeI m).filter fun k => !decide (k ∈ o))), [.d (.int m), .d (tuI o)]) := by
  unfold f_rest_of
  refine fn_e rfl rfl rfl rfl ?_
  have hlc := lc_pure (ρ := [some (.d (.int m)), some (.d (tuI o)), none]) (ρ1 := [some (.d (.int m)), some (.d (tuI o)), none]) (ρL := [some (.d (.int m)), some (.d (tuI o)), none]) (ρ0 := [some (.d (.int m)), some (.d (tuI o)), none]) (ρ3 := [some (.d (.int m)), some (.d (tuI o)), none])
    (is := [2]) (b := .name 2) (r := .d .none) (ci := cRng (cCons (cVar 0) cNil)) (ct := cTst (cOp2 (gIn true) (cVar 2) (cVar 1))) (ce := cVar 2) (ds := numsD 0 m.toNat) (inT true o) id
    (by
      simp [cRng]
      omega) rfl rfl rfl (fun d hd => by
      rw [nums_range] at hd
      obtain ⟨k, _, rfl⟩ := mem_int hd
      exact ⟨[some (.d (.int m)), some (.d (tuI o)), some (.d (.int k))], rfl, by simp [gIn_tuI, inT], fun _ => ⟨.d (.int k), by simp, rfl⟩, rfl, rfl⟩) (rangeI_len9 h2) rfl
  rw [nums_range, filt_map (fun k => !decide (k ∈ o)) (rangeI m) _ (fun k => by simp [inT])] at hlc
  simp [c_rest_of, hlc, gTuple]
theorem part_ok (hl : l.length ≤ 9) : f_is_part [.d (tuI l), .d (tuI o)] = some (.d (.bool (l.all fun k => decide (k ∈ o))), [.d (tuI l), .d (tuI o)]) := by
  unfold f_is_part
  refine fn_e rfl rfl rfl rfl ?_
  have hlc := lc_pure (ρ := [some (.d (tuI l)), some (.d (tuI o)), none]) (ρ1 := [some (.d (tuI l)), some (.d (tuI o)), none]) (ρL := [some (.d (tuI l)), some (.d (tuI o)), none]) (ρ0 := [some (.d (tuI l)), some (.d (tuI o)), none]) (ρ3 := [some (.d (tuI l)), some (.d (tuI o)), none])
    (is := [2]) (b := .name 2) (r := .d .none) (ci := cSeq (cVar 0)) (ct := cYes) (ce := cOp2 (gIn false) (cVar 2) (cVar 1)) (ds := l.map .int) (fun _ => true) (fun d => .bool (inT false o d))
    (by simp [cSeq]) rfl rfl rfl (fun d hd => by
      obtain ⟨k, _, rfl⟩ := mem_int hd
      exact ⟨[some (.d (tuI l)), some (.d (tuI o)), some (.d (.int k))], rfl, rfl, fun _ => ⟨.d (.bool (inT false o (.int k))), by simp [gIn_tuI, inT], rfl⟩, rfl, rfl⟩) (by rw [List.length_map]; exact small_le (by omega)) rfl
  have hf : ∀ l : List PyData, l.filter (fun _ => true) = l := fun l => List.filter_eq_self.mpr fun _ _ => rfl
  have e : (l.map PyData.int).map (fun d => PyData.bool (inT false o d)) = (l.map fun k => decide (k ∈ o)).map .bool := by
    rw [List.map_map, List.map_map]
    refine List.map_congr_left fun k _ => ?_
    show PyData.bool (false ^^ decide (k ∈ o)) = .bool (decide (k ∈ o))
    rw [Bool.false_xor]
  rw [hf, e] at hlc
  have ha : (l.map fun k => decide (k ∈ o)).all id = l.all fun k => decide (k ∈ o) := by
    rw [List.all_map]
    rfl
  show ∃ ρ', c_is_part [some (.d (tuI l)), some (.d (tuI o)), none] = some (.rt (.d (.bool (l.all fun k => decide (k ∈ o)))), ρ')
  simp only [c_is_part, ev_seq, ev_ret, ev_fn, ev_cons, hlc, ev_nil, Option.bind_some, Option.map_some, ev_datAll1, ev_datAll0, ev_dn, gAll, bools_map, oB, ha, ev_retd, seqV_rt]
  exact ⟨_, rfl⟩
theorem joined_ok (h1 : 1 ≤ m) (h2 : m ≤ 9) (hl : Ris m l) (ho : Ris m o) : f_joined [.d (.int m), .d (tuI l), .d (tuI o)] = some (.d (tuI (sortI (l ++ o))), [.d (.int m), .d (tuI l), .d (tuI o)]) := by
  unfold f_joined
  refine fn_e rfl rfl rfl rfl ?_
  simp [c_joined, wtwo_ok h1 h2 hl ho, both_ok (hl.len h2) (ho.len h2)]
theorem common_ok (h1 : 1 ≤ m) (h2 : m ≤ 9) (hl : Ris m l) (ho : Ris m o) : f_common [.d (.int m), .d (tuI l), .d (tuI o)] = some (.d (tuI (l.filter fun k => decide (k ∈ o))), [.d (.int m), .d (tuI l), .d (tuI o)]) := by
  unfold f_common
  refine fn_e rfl rfl rfl rfl ?_
  simp [c_common, wtwo_ok h1 h2 hl ho, shared_ok (hl.len h2)]
theorem less_ok (h1 : 1 ≤ m) (h2 : m ≤ 9) (hl : Ris m l) (ho : Ris m o) : f_less [.d (.int m), .d (tuI l), .d (tuI o)] = some (.d (tuI (l.filter fun k => !decide (k ∈ o))), [.d (.int m), .d (tuI l), .d (tuI o)]) := by
  unfold f_less
  refine fn_e rfl rfl rfl rfl ?_
  simp [c_less, wtwo_ok h1 h2 hl ho, left_ok (hl.len h2)]
theorem within_lot_ok (h1 : 1 ≤ m) (h2 : m ≤ 9) (hl : Ris m l) (ho : Ris m o) : f_is_within_lot [.d (.int m), .d (tuI l), .d (tuI o)] = some (.d (.bool (l.all fun k => decide (k ∈ o))), [.d (.int m), .d (tuI l), .d (tuI o)]) := by
  unfold f_is_within_lot
  refine fn_e rfl rfl rfl rfl ?_
  simp [c_is_within_lot, wtwo_ok h1 h2 hl ho, part_ok (hl.len h2)]
theorem rest_ok (h1 : 1 ≤ m) (h2 : m ≤ 9) (hl : Ris m l) : f_rest [.d (.int m), .d (tuI l)] = some (.d (tuI ((rangeI m).filter fun k => !decide (k ∈ l))), [.d (.int m), .d (tuI l)]) := by
  unfold f_rest
  refine fn_e rfl rfl rfl rfl ?_
  simp [c_rest, many_ok h1 h2, wlot_ok hl h2, restof_ok h1 h2]
theorem islot_ok (h1 : 1 ≤ m) (h2 : m ≤ 9) (x : PyData) (hl : ∀ xs, x = .tuple xs → xs.length ≤ 1000) : f_is_lot [.d (.int m), .d x] = some (.d (.bool (lotB m x)), [.d (.int m), .d x]) := by
  unfold f_is_lot
  refine fn_e rfl rfl rfl rfl ?_
  simp [c_is_lot, many_ok h1 h2, lotof_ok x m hl]
end
end K12

namespace K12
open PySem DL
open L2 (CDivP CMul atI ixN CPow)
/-! ### the law's own look at a lot -/
def okB (m : Int) : PyData → Bool
  | .int i => decide (0 ≤ i) && decide (i < m)
  | _ => false
theorem okB_inR (m : Int) (x : PyData) : okB m x = inR 0 (m - 1) x := by
  cases x with
  | int i =>
    show (decide (0 ≤ i) && decide (i < m)) = (decide (0 ≤ i) && decide (i ≤ m - 1))
    congr 1
    exact decide_eq_decide.mpr (by omega)
  | _ => rfl
theorem lawis_ok (x : PyData) (m : Int) (hl : ∀ xs, x = .tuple xs → xs.length ≤ 1000) : f__law_is_lot [.d (.int m), .d x] = some (.d (.bool (lotB m x)), [.d (.int m), .d x]) := by
  unfold f__law_is_lot
  refine fn_e rfl rfl rfl rfl ?_
  cases x with
  | tuple xs =>
    have hx := hl xs rfl
    have hlc := lc_pure (ρ := [some (.d (.int m)), some (.d (.tuple xs)), none, none, none]) (ρ1 := [some (.d (.int m)), some (.d (.tuple xs)), none, none, none]) (ρL := [some (.d (.int m)), some (.d (.tuple xs)), none, none, none]) (ρ0 := [some (.d (.int m)), some (.d (.tuple xs)), none, none, none]) (ρ3 := [some (.d (.int m)), some (.d (.tuple xs)), none, none, none])
      (is := [4]) (b := .name 4) (ct := cYes) (r := .d .none) (ci := cSeq (cVar 1)) (ce := cAnd (cOp1 (gIsi "int") (cVar 4)) (cAnd (cNot (cOp1 (gIsi "bool") (cVar 4))) (cChain gLe gLt (cCst (.int 0)) (cVar 4) (cVar 0)))) (ds := xs) (fun _ => true) (fun z => .bool (okB m z))
      (by simp [cSeq]) rfl rfl rfl (fun d hd => ⟨[some (.d (.int m)), some (.d (.tuple xs)), none, none, some (.d d)], rfl, rfl, fun _ => ⟨.d (.bool (okB m d)), by
        cases d with
        | int i =>
          by_cases h : 0 ≤ i <;> simp [ev_and, ev_not, ev_chain, gIsi, oB, isT, tyName, gLe, gLt, gI2, okB, h]
        | _ => simp [ev_and, ev_not, ev_chain, gIsi, oB, isT, tyName, okB], rfl⟩, rfl, rfl⟩) (small_le (by omega)) rfl
    have hf : ∀ l : List PyData, l.filter (fun _ => true) = l := fun l => List.filter_eq_self.mpr fun _ _ => rfl
    rw [hf] at hlc
    have hb : boolsD (xs.map fun z => .bool (okB m z)) = some (xs.map (okB m)) := by
      rw [← bools_map, List.map_map]
      rfl
    have ha : (xs.map (okB m)).all id = xs.all (inR 0 (m - 1)) := by
      rw [List.all_map]
      congr 1
      funext z
      exact okB_inR m z
    cases q : xs.all (inR 0 (m - 1)) with
    | true =>
      have e := intsOf_all q
      have hli : (intsOf xs).length ≤ 1000 := by
        have := congrArg List.length e
        rw [List.length_map] at this
        omega
      obtain ⟨bs, h1, h2⟩ := pairs_ris (intsOf xs)
      have hlc2 := lc_pure (ρ := [some (.d (.int m)), some (.d (.tuple xs)), none, none, none]) (ρ1 := [some (.d (.int m)), some (.d (.tuple xs)), none, none, none]) (ρL := [some (.d (.int m)), some (.d (.tuple xs)), none, none, none]) (ρ0 := [some (.d (.int m)), some (.d (.tuple xs)), none, none, none]) (ρ3 := [some (.d (.int m)), some (.d (.tuple xs)), none, none, none])
        (is := [2, 3]) (b := .tup [2, 3]) (ct := cYes) (r := .d .none) (ci := cZip (cCons (cVar 1) (cCons (cSl (cVar 1) (oSo (cCst (.int 1))) oNo) cNil))) (ce := cOp2 gLt (cVar 2) (cVar 3)) (ds := pairsD xs (xs.drop 1)) (fun _ => true) prF
        (by simp [cZip, cSl, oSo, oNo, gCut, cut_tail]) rfl rfl rfl (fun d hd => by
          rw [e, ← List.map_drop] at hd
          obtain ⟨i, j, rfl⟩ := pairs_mem hd
          refine ⟨[some (.d (.int m)), some (.d (.tuple xs)), some (.d (.int i)), some (.d (.int j)), none], rfl, rfl, fun _ => ⟨.d (.bool (decide (i < j))), by simp [gLt, gI2, oB], rfl⟩, rfl, rfl⟩)
        (by rw [pairsD_len]; exact small_le (by omega)) rfl
      have h1' : (pairsD xs (xs.drop 1)).map prF = bs.map .bool := by
        rw [← h1, ← e]
      rw [hf, h1'] at hlc2
      simp [c__law_is_lot, ev_sif, ev_tor, ev_tnot, gIsi, oB, isT, tyName, hlc, gAll, hb, ha, q, hlc2, bools_map, h2, lotB]
    | false =>
      simp [c__law_is_lot, ev_sif, ev_tor, ev_tnot, gIsi, oB, isT, tyName, hlc, gAll, hb, ha, q, lotB]
  | _ => simp [c__law_is_lot, ev_sif, ev_tor, ev_tnot, gIsi, oB, isT, tyName, lotB]
/-! ### all lots -/
def lotsR : Nat → List (List Int)
  | 0 => [[]]
  | n + 1 => lotsR n ++ (lotsR n).map (· ++ [(n : Int)])
theorem lotsR_len : ∀ n, (lotsR n).length = 2 ^ n
  | 0 => rfl
  | n + 1 => by
    rw [lotsR, List.length_append, List.length_map, lotsR_len n, Nat.pow_succ]
    omega
theorem lotsR_ris : ∀ (n : Nat) (l : List Int), l ∈ lotsR n → Ris n l
  | 0, l, h => by
    have : l = [] := by simpa [lotsR] using h
    subst this
    exact ⟨.nil, fun k hk => by simp at hk⟩
  | n + 1, l, h => by
    rw [lotsR, List.mem_append] at h
    rcases h with h | h
    · exact (lotsR_ris n l h).up (by omega)
    · obtain ⟨l', h', rfl⟩ := List.mem_map.mp h
      have r := lotsR_ris n l' h'
      refine ⟨?_, fun k hk => ?_⟩
      · refine List.pairwise_append.mpr ⟨r.1, List.pairwise_singleton _ _, fun a ha b hb => ?_⟩
        have := r.2 a ha
        have : b = n := by simpa using hb
        omega
      · rcases List.mem_append.mp hk with hk | hk
        · have := r.2 k hk
          omega
        · have : k = n := by simpa using hk
          omega
def allL (n : Nat) : List PyData := sortD ((lotsR n).map tuI)
theorem allL_mem {n : Nat} {d : PyData} (h : d ∈ allL n) : ∃ l, Ris n l ∧ d = tuI l := by
  obtain ⟨l, hl, e⟩ := List.mem_map.mp (sortD_mem.mp h)
  exact ⟨l, lotsR_ris n l hl, e.symm⟩
theorem allL_len (n : Nat) : (allL n).length = 2 ^ n := by
  unfold allL
  rw [sortD_len, List.length_map, lotsR_len]
theorem allL_shaped (n : Nat) : SeqAt.shaped (.list (allL n)) = true := by
  refine list_shaped (n := 1) (fun d hd => ?_) (fun d hd => ?_) (by decide)
  · obtain ⟨l, _, rfl⟩ := allL_mem hd
    exact tuI_lay l
  · obtain ⟨l, _, rfl⟩ := allL_mem hd
    exact tuI_dep l
theorem pow9 {n : Nat} (h : n ≤ 9) : 2 ^ n ≤ 512 := by
  have : (2 : Nat) ^ n ≤ 2 ^ 9 := Nat.pow_le_pow_right (by omega) h
  simpa using this
theorem ft (l : List PyData) : l.filter (fun _ => true) = l := List.filter_eq_self.mpr fun _ _ => rfl
def appD (c : Int) : PyData → PyData
  | .tuple xs => .tuple (xs ++ [.int c])
  | d => d
theorem app_map (c : Int) (ls : List (List Int)) : (ls.map tuI).map (appD c) = (ls.map (· ++ [c])).map tuI := by
  rw [List.map_map, List.map_map]
  refine List.map_congr_left fun l _ => ?_
  show PyData.tuple (l.map .int ++ [.int c]) = .tuple ((l ++ [c]).map .int)
  rw [List.map_append]
  rfl
theorem step_lc (k c : Int) (ls : List (List Int)) (A : List PyData) (hA : ls.map tuI = A) (h1 : ∀ l ∈ ls, l.length ≤ 9) (h2 : ls.length ≤ 512) :
    cLC [3] (cSeq (cVar 1)) (.name 3) cYes (cOp2 gAdd (cVar 3) (cTup (cCons (cVar 2) cNil))) [some (.d (.int k)), some (.d (.list A)), some (.d (.int c)), none] = some (.n (.list (A.map (appD c))), [some (.d (.int k)), some (.d (.list A)), some (.d (.int c)), none]) := by
  have s1 : (1 : Nat) ≤ sizeLine := small_le (by omega)
  have hlc := lc_pure (ρ := [some (.d (.int k)), some (.d (.list A)), some (.d (.int c)), none]) (ρ1 := [some (.d (.int k)), some (.d (.list A)), some (.d (.int c)), none]) (ρL := [some (.d (.int k)), some (.d (.list A)), some (.d (.int c)), none]) (ρ0 := [some (.d (.int k)), some (.d (.list A)), some (.d (.int c)), none]) (ρ3 := [some (.d (.int k)), some (.d (.list A)), some (.d (.int c)), none])
    (is := [3]) (b := .name 3) (ct := cYes) (r := .d (.list A)) (ci := cSeq (cVar 1)) (ce := cOp2 gAdd (cVar 3) (cTup (cCons (cVar 2) cNil))) (ds := A) (fun _ => true) (appD c)
    (by simp [cSeq]) rfl rfl rfl (fun d hd => by
      rw [← hA] at hd
      obtain ⟨l, hl, rfl⟩ := List.mem_map.mp hd
      have := h1 l hl
      have s2 : l.length + 1 ≤ sizeLine := small_le (by omega)
      exact ⟨[some (.d (.int k)), some (.d (.list A)), some (.d (.int c)), some (.d (tuI l))], rfl, rfl, fun _ => ⟨.d (.tuple (l.map .int ++ [.int c])), by simp [gAdd, s1, s2], rfl⟩, rfl, rfl⟩) (by rw [← hA, List.length_map]; exact small_le (by omega)) rfl
  rw [ft] at hlc
  exact hlc
theorem step_ok (k c : Int) (A A' : List PyData) (hl : A.length + A'.length ≤ sizeLine) (hlc : cLC [3] (cSeq (cVar 1)) (.name 3) cYes (cOp2 gAdd (cVar 3) (cTup (cCons (cVar 2) cNil))) [some (.d (.int k)), some (.d (.list A)), some (.d (.int c)), none] = some (.n (.list A'), [some (.d (.int k)), some (.d (.list A)), some (.d (.int c)), none])) :
    (sSeq (sSet [] [] 1 (cOp2 gAdd (cVar 1) (cLC [3] (cSeq (cVar 1)) (.name 3) cYes (cOp2 gAdd (cVar 3) (cTup (cCons (cVar 2) cNil)))))) sNx) [some (.d (.int k)), some (.d (.list A)), some (.d (.int c)), none] = some (.nx, [some (.d (.int k)), some (.d (.list (A ++ A'))), some (.d (.int c)), none]) := by
  generalize cLC [3] (cSeq (cVar 1)) (.name 3) cYes (cOp2 gAdd (cVar 3) (cTup (cCons (cVar 2) cNil))) = C at hlc ⊢
  have ga : gAdd (.list A) (.list A') = some (.n (.list (A ++ A'))) := if_pos hl
  simp [hlc, ga]
theorem lots_for (k : Int) (n : Nat) (hk : k.toNat = n) (h0 : 0 ≤ k) (hn : n ≤ 9) : ∃ ρ3, sFor (cRng (cCons (cVar 0) cNil)) (gN [] 2) (sSeq (sSet [] [] 1 (cOp2 gAdd (cVar 1) (cLC [3] (cSeq (cVar 1)) (.name 3) cYes (cOp2 gAdd (cVar 3) (cTup (cCons (cVar 2) cNil)))))) sNx)
    [some (.d (.int k)), some (.d (.list [.tuple []])), none, none] = some (.nx, ρ3) ∧ ∃ z, ρ3 = [some (.d (.int k)), some (.d (.list ((lotsR n).map tuI))), z, none] := by
  refine for_ix (ci := cRng (cCons (cVar 0) cNil)) (st := gN [] 2) (body := sSeq (sSet [] [] 1 (cOp2 gAdd (cVar 1) (cLC [3] (cSeq (cVar 1)) (.name 3) cYes (cOp2 gAdd (cVar 3) (cTup (cCons (cVar 2) cNil)))))) sNx)
    (ρ := [some (.d (.int k)), some (.d (.list [.tuple []])), none, none]) (ρ1 := [some (.d (.int k)), some (.d (.list [.tuple []])), none, none]) (ρL := [some (.d (.int k)), some (.d (.list [.tuple []])), none, none]) (r := .d .none) (ds := numsD 0 k.toNat)
    (I := fun i ρ => i ≤ n ∧ ∃ z, ρ = [some (.d (.int k)), some (.d (.list ((lotsR i).map tuI))), z, none]) (J := fun ρ => ∃ z, ρ = [some (.d (.int k)), some (.d (.list ((lotsR n).map tuI))), z, none])
    (by
      simp [cRng]
      omega) rfl ⟨Nat.zero_le _, none, rfl⟩ (fun i d ρ hd hI => ?_) (fun ρ2 h => ?_)
  · obtain ⟨_, z, rfl⟩ := hI
    obtain ⟨hlt, rfl⟩ := numsD_get hd
    have hp := pow9 (n := i) (by omega)
    have hll := lotsR_len i
    have hr := lotsR_ris i
    have e1 : lotsR (i + 1) = lotsR i ++ (lotsR i).map (· ++ [(0 + (i : Int))]) := by rw [Int.zero_add]; rfl
    have e2 : (lotsR (i + 1)).map tuI = (lotsR i).map tuI ++ ((lotsR i).map tuI).map (appD (0 + (i : Int))) := by rw [e1, List.map_append, app_map]
    have e3 : ((lotsR i).map tuI).length ≤ 512 := by rw [List.length_map]; omega
    have lc := fun c => step_lc k c (lotsR i) _ rfl (fun l hl => (hr l hl).len (by omega)) (by omega)
    refine ⟨[some (.d (.int k)), some (.d (.list ((lotsR i).map tuI))), some (.d (.int (0 + (i : Int)))), none], [some (.d (.int k)), some (.d (.list ((lotsR (i + 1)).map tuI))), some (.d (.int (0 + (i : Int)))), none], rfl, ?_, by omega, _, rfl⟩
    rw [e2]
    generalize (0 + (i : Int)) = c at *
    have lc := lc c
    generalize (lotsR i).map tuI = A at *
    exact step_ok k c A _ (by rw [List.length_map]; exact small_le (by omega)) lc
  · rw [numsD_len, hk] at h
    obtain ⟨_, z, rfl⟩ := h
    exact ⟨_, rfl, z, rfl⟩
theorem sorted_lots (n : Nat) : gSorted [.list ((lotsR n).map tuI)] = some (.n (.list (allL n))) := by
  unfold allL gSorted
  exact if_pos sortOk_tuI
/-- the statement that both texts have -/
theorem lots_run (k : Int) (n : Nat) (hk : k.toNat = n) (h0 : 0 ≤ k) (hn : n ≤ 9) (A : List PyData) (hA : allL n = A) : ∃ ρ', (sSeq (sSet [] [] 1 (cLst (cCons (cTup cNil) cNil)))
    (sSeq (sFor (cRng (cCons (cVar 0) cNil)) (gN [] 2) (sSeq (sSet [] [] 1 (cOp2 gAdd (cVar 1) (cLC [3] (cSeq (cVar 1)) (.name 3) cYes (cOp2 gAdd (cVar 3) (cTup (cCons (cVar 2) cNil))))))
    sNx))
    (sSeq (sRet [] (cFn gSorted (cCons (cVar 1) cNil)))
    sNx))) [some (.d (.int k)), none, none, none] = some (.rt (.n (.list A)), ρ') := by
  have s0 : (0 : Nat) ≤ sizeLine := small_le (by omega)
  have s1 : (1 : Nat) ≤ sizeLine := small_le (by omega)
  obtain ⟨ρ3, e1, z, rfl⟩ := lots_for k n hk h0 hn
  have hs := sorted_lots n
  rw [hA] at hs
  have e0 : sSet [] [] 1 (cLst (cCons (cTup cNil) cNil)) [some (.d (.int k)), none, none, none] = some (.nx, [some (.d (.int k)), some (.d (.list [.tuple []])), none, none]) := by simp [s0, s1]
  generalize (lotsR n).map tuI = C at hs e1
  refine ⟨[some (.d (.int k)), some (.d (.list C)), z, none], (seq_nx e0).trans ((seq_nx e1).trans ?_)⟩
  generalize gSorted = G at hs ⊢
  simp [hs]
section
variable {k : Int} {n : Nat} {A : List PyData}
theorem lawlots_ok (hk : k.toNat = n) (h0 : 0 ≤ k) (hn : n ≤ 9) (hA : allL n = A) : f__law_lots [.d (.int k)] = some (.n (.list A), [.d (.int k)]) := by
  unfold f__law_lots
  exact fn_e rfl rfl rfl rfl (lots_run k n hk h0 hn A hA)
theorem all_lots_ok (hk : k.toNat = n) (h0 : 0 ≤ k) (hn : n ≤ 9) (hA : allL n = A) : f_all_lots [.d (.int k)] = some (.n (.list A), [.d (.int k)]) := by
  unfold f_all_lots
  exact fn_e rfl rfl rfl rfl (lots_run k n hk h0 hn A hA)
theorem lots_ok (hk : k.toNat = n) (h1 : 1 ≤ k) (hn : n ≤ 9) (hA : allL n = A) : f_lots [.d (.int k)] = some (.n (.list A), [.d (.int k)]) := by
  have e1 := many_ok (m := k) h1 (by omega)
  have e2 := all_lots_ok hk (by omega) hn hA
  unfold f_lots
  refine fn_e rfl rfl rfl rfl ?_
  unfold c_lots
  generalize f_all_lots = F at e2 ⊢
  simp [e1, e2]
end
end K12

namespace K12
open PySem DL
open L2 (CDivP CMul atI ixN CPow)
/-! ### two lots -/
section
variable {m : Int} {l o : List Int}
def bothV (m : Int) (l o : List Int) : List Int := (rangeI m).filter fun k => decide (k ∈ l) || decide (k ∈ o)
def shV (l o : List Int) : List Int := l.filter fun k => decide (k ∈ o)
def leV (l o : List Int) : List Int := l.filter fun k => !decide (k ∈ o)
def reV (m : Int) (l : List Int) : List Int := (rangeI m).filter fun k => !decide (k ∈ l)
theorem bothV_ris : Ris m (bothV m l o) := (Ris.range m).filter _
theorem shV_ris (hl : Ris m l) : Ris m (shV l o) := hl.filter _
theorem leV_ris (hl : Ris m l) : Ris m (leV l o) := hl.filter _
theorem reV_ris : Ris m (reV m l) := (Ris.range m).filter _
theorem bothV_mem (hl : Ris m l) (ho : Ris m o) {k : Int} : k ∈ bothV m l o ↔ k ∈ l ∨ k ∈ o := by
  unfold bothV
  rw [List.mem_filter, rangeI_mem]
  simp only [Bool.or_eq_true, decide_eq_true_eq]
  constructor
  · exact fun h => h.2
  · exact fun h => ⟨h.elim (hl.2 k) (ho.2 k), h⟩
theorem shV_mem {k : Int} : k ∈ shV l o ↔ k ∈ l ∧ k ∈ o := by
  unfold shV
  rw [List.mem_filter, decide_eq_true_eq]
theorem leV_mem {k : Int} : k ∈ leV l o ↔ k ∈ l ∧ k ∉ o := by
  unfold leV
  rw [List.mem_filter]
  simp
theorem reV_mem {k : Int} : k ∈ reV m l ↔ (0 ≤ k ∧ k < m) ∧ k ∉ l := by
  unfold reV
  rw [List.mem_filter, rangeI_mem]
  simp
theorem sort_both (hl : Ris m l) (ho : Ris m o) : sortI (l ++ o) = bothV m l o := (hl.sort ho).eq bothV_ris fun k => by
  rw [sortI_mem, List.mem_append, bothV_mem hl ho]
theorem sort_both' (hl : Ris m l) (ho : Ris m o) : sortI (o ++ l) = bothV m l o := (ho.sort hl).eq bothV_ris fun k => by
  rw [sortI_mem, List.mem_append, bothV_mem hl ho]
  exact Or.comm
theorem sh_comm (hl : Ris m l) (ho : Ris m o) : shV o l = shV l o := (shV_ris ho).eq (shV_ris hl) fun k => by
  rw [shV_mem, shV_mem]
  exact And.comm
theorem part_left : (l.all fun k => decide (k ∈ o)) = decide (leV l o = []) := by
  rw [Bool.eq_iff_iff, List.all_eq_true, decide_eq_true_eq]
  unfold leV
  rw [List.filter_eq_nil_iff]
  simp
theorem diff_both (hl : Ris m l) (ho : Ris m o) : sortI (leV l o ++ leV o l) = leV (bothV m l o) (shV l o) := ((leV_ris hl).sort (leV_ris ho)).eq (leV_ris bothV_ris) fun k => by
  rw [sortI_mem, List.mem_append, leV_mem, leV_mem, leV_mem, bothV_mem hl ho, shV_mem]
  by_cases h1 : k ∈ l <;> by_cases h2 : k ∈ o <;> simp [h1, h2]
theorem rest_rest (hl : Ris m l) : reV m (reV m l) = l := reV_ris.eq hl fun k => by
  rw [reV_mem, reV_mem]
  by_cases h : k ∈ l
  · have := hl.2 k h
    simp [h, this]
  · simp [h]
theorem rest_both (hl : Ris m l) (ho : Ris m o) : reV m (bothV m l o) = shV (reV m l) (reV m o) := reV_ris.eq (shV_ris reV_ris) fun k => by
  rw [reV_mem, shV_mem, reV_mem, reV_mem, bothV_mem hl ho]
  by_cases h1 : k ∈ l <;> by_cases h2 : k ∈ o <;> simp [h1, h2]
theorem rest_sh (hl : Ris m l) (ho : Ris m o) : reV m (shV l o) = sortI (reV m l ++ reV m o) := reV_ris.eq (reV_ris.sort reV_ris) fun k => by
  rw [sortI_mem, List.mem_append, reV_mem, reV_mem, reV_mem, shV_mem]
  by_cases h1 : k ∈ l <;> by_cases h2 : k ∈ o <;> simp [h1, h2]
/-- how much room a paper of lots takes -/
theorem reprB_tuI : ∀ (l : List Int), (∀ k ∈ l, 0 ≤ k ∧ k < 9) → reprBs (l.map .int) ≤ 12 * l.length
  | [], _ => Nat.le_refl _
  | k :: l, h => by
    have h1 := h k List.mem_cons_self
    have h2 := reprB_tuI l fun j hj => h j (List.mem_cons_of_mem _ hj)
    rw [List.map_cons, reprBs, reprB, List.length_cons]
    omega
theorem reprB_ris (hm : m ≤ 9) (hl : Ris m l) : reprB (tuI l) ≤ 111 := by
  have h1 := hl.len hm
  have h2 := reprB_tuI l fun k hk => by have := hl.2 k hk; omega
  rw [reprB]
  omega
def told (a b c : PyData) (p : Bool) : PyData := .list [a, b, c, .bool p]
theorem repr_ok (hm : m ≤ 9) {a b c : List Int} (ha : Ris m a) (hb : Ris m b) (hc : Ris m c) (p : Bool) : ∃ s, gRepr [.list [told (tuI a) (tuI b) (tuI c) p, told (tuI a) (tuI b) (tuI c) p]] = some (.d (.str s)) := by
  have la := tuI_lay a
  have lb := tuI_lay b
  have lc := tuI_lay c
  have da := tuI_dep a
  have db := tuI_dep b
  have dc := tuI_dep c
  have lay : (PyData.list [told (tuI a) (tuI b) (tuI c) p, told (tuI a) (tuI b) (tuI c) p]).canLay0 = true := by
    unfold told
    simp only [PyData.canLay0, PyData.canLayAll0, Bool.and_true, Bool.and_self] at la lb lc ⊢
    simp [la, lb, lc]
  have nd : (PyData.list [told (tuI a) (tuI b) (tuI c) p, told (tuI a) (tuI b) (tuI c) p]).hasDict = false := nodict_of (by
    refine list_shaped (n := 2) (fun d hd => ?_) (fun d hd => ?_) (by decide)
    · have e : d = told (tuI a) (tuI b) (tuI c) p := by simpa using hd
      subst e
      unfold told
      simp only [PyData.canLay0, PyData.canLayAll0, Bool.and_true, Bool.and_self] at la lb lc ⊢
      simp [la, lb, lc]
    · have e : d = told (tuI a) (tuI b) (tuI c) p := by simpa using hd
      subst e
      unfold told
      rw [PyData.depth]
      simp only [PyData.depthAll, PyData.depth] at da db dc ⊢
      omega)
  have dp : (PyData.list [told (tuI a) (tuI b) (tuI c) p, told (tuI a) (tuI b) (tuI c) p]).depth ≤ 60 := by
    unfold told
    rw [PyData.depth]
    simp only [PyData.depthAll, PyData.depth] at da db dc ⊢
    omega
  have ln : (PyData.list [told (tuI a) (tuI b) (tuI c) p, told (tuI a) (tuI b) (tuI c) p]).shown.length ≤ sizeLine := by
    refine Nat.le_trans (shown_le _ lay) (small_le ?_)
    have ra := reprB_ris hm ha
    have rb := reprB_ris hm hb
    have rc := reprB_ris hm hc
    unfold told
    simp only [reprB, reprBs] at ra rb rc ⊢
    omega
  have shi : ∀ (l : List Int), (∀ k ∈ l, 0 ≤ k ∧ k < 9) → PyData.showableAll (l.map .int) = true := fun l => by
    induction l with
    | nil => exact fun _ => rfl
    | cons k l ih =>
      intro h
      have h1 := h k List.mem_cons_self
      rw [List.map_cons, PyData.showableAll, ih fun j hj => h j (List.mem_cons_of_mem _ hj), PyData.showable, Bool.and_true]
      refine decide_eq_true ?_
      have : k.natAbs < 9 := by omega
      have : k.natAbs.log2 ≤ k.natAbs := Nat.log2_le_self _
      omega
  have rk : ∀ {l : List Int}, Ris m l → ∀ k ∈ l, 0 ≤ k ∧ k < 9 := fun h k hk => by have := h.2 k hk; omega
  have sh : (PyData.list [told (tuI a) (tuI b) (tuI c) p, told (tuI a) (tuI b) (tuI c) p]).showable = true := by
    unfold told
    simp only [PyData.showable, PyData.showableAll, shi a (rk ha), shi b (rk hb), shi c (rk hc), Bool.and_self]
  exact ⟨_, if_pos ⟨sh, nd, dp, ln, rfl⟩⟩
end
end K12

namespace K12
open PySem DL
open L2 (CDivP CMul atI ixN CPow)
section
variable {m : Int} {l o : List Int}
abbrev env3 (m : Int) (l o : List Int) (a b c d e f : Option SV) : DL.Env := [some (.d (.int m)), some (.d (tuI l)), some (.d (tuI o)), a, b, c, d, e, f, none]
theorem lcA (m9 : m ≤ 9) (h1 : 1 ≤ m) : cLC [9] (cRng (cCons (cVar 0) cNil)) (.name 9) (tOrT (cTst (cOp2 (gIn false) (cVar 9) (cVar 1))) (cTst (cOp2 (gIn false) (cVar 9) (cVar 2)))) (cVar 9) (env3 m l o none none none none none none) = some (.n (.list ((bothV m l o).map .int)), env3 m l o none none none none none none) := by
  have hlc := lc_pure (ρ := env3 m l o none none none none none none) (ρ1 := env3 m l o none none none none none none) (ρL := env3 m l o none none none none none none) (ρ0 := env3 m l o none none none none none none) (ρ3 := env3 m l o none none none none none none)
    (is := [9]) (b := .name 9) (r := .d .none) (ci := cRng (cCons (cVar 0) cNil)) (ct := tOrT (cTst (cOp2 (gIn false) (cVar 9) (cVar 1))) (cTst (cOp2 (gIn false) (cVar 9) (cVar 2)))) (ce := cVar 9) (ds := numsD 0 m.toNat) (fun d => inT false l d || inT false o d) id
    (by
      simp [cRng]
      omega) rfl rfl rfl (fun d hd => by
      rw [nums_range] at hd
      obtain ⟨k, _, rfl⟩ := mem_int hd
      refine ⟨[some (.d (.int m)), some (.d (tuI l)), some (.d (tuI o)), none, none, none, none, none, none, some (.d (.int k))], rfl, ?_, fun _ => ⟨.d (.int k), by simp, rfl⟩, rfl, rfl⟩
      by_cases h : k ∈ l <;> simp [ev_tor, gIn_tuI, inT, h]) (rangeI_len9 m9) rfl
  rw [nums_range, filt_map (fun k => decide (k ∈ l) || decide (k ∈ o)) (rangeI m) _ (fun k => by simp [inT])] at hlc
  exact hlc
theorem lcB (hl : l.length ≤ 9) (z : Option SV) : cLC [9] (cSeq (cVar 1)) (.name 9) (cTst (cOp2 (gIn false) (cVar 9) (cVar 2))) (cVar 9) (env3 m l o z none none none none none) = some (.n (.list ((shV l o).map .int)), env3 m l o z none none none none none) := by
  have hlc := lc_pure (ρ := env3 m l o z none none none none none) (ρ1 := env3 m l o z none none none none none) (ρL := env3 m l o z none none none none none) (ρ0 := env3 m l o z none none none none none) (ρ3 := env3 m l o z none none none none none)
    (is := [9]) (b := .name 9) (r := .d .none) (ci := cSeq (cVar 1)) (ct := cTst (cOp2 (gIn false) (cVar 9) (cVar 2))) (ce := cVar 9) (ds := l.map .int) (inT false o) id
    (by simp [cSeq]) rfl rfl rfl (fun d hd => by
      obtain ⟨k, _, rfl⟩ := mem_int hd
      exact ⟨[some (.d (.int m)), some (.d (tuI l)), some (.d (tuI o)), z, none, none, none, none, none, some (.d (.int k))], rfl, by simp [gIn_tuI, inT], fun _ => ⟨.d (.int k), by simp, rfl⟩, rfl, rfl⟩) (by rw [List.length_map]; exact small_le (by omega)) rfl
  rw [filt_map (fun k => decide (k ∈ o)) l _ (fun k => by simp [inT])] at hlc
  exact hlc
theorem lcC (hl : l.length ≤ 9) (z y : Option SV) : cLC [9] (cSeq (cVar 1)) (.name 9) (cTst (cOp2 (gIn true) (cVar 9) (cVar 2))) (cVar 9) (env3 m l o z y none none none none) = some (.n (.list ((leV l o).map .int)), env3 m l o z y none none none none) := by
  have hlc := lc_pure (ρ := env3 m l o z y none none none none) (ρ1 := env3 m l o z y none none none none) (ρL := env3 m l o z y none none none none) (ρ0 := env3 m l o z y none none none none) (ρ3 := env3 m l o z y none none none none)
    (is := [9]) (b := .name 9) (r := .d .none) (ci := cSeq (cVar 1)) (ct := cTst (cOp2 (gIn true) (cVar 9) (cVar 2))) (ce := cVar 9) (ds := l.map .int) (inT true o) id
    (by simp [cSeq]) rfl rfl rfl (fun d hd => by
      obtain ⟨k, _, rfl⟩ := mem_int hd
      exact ⟨[some (.d (.int m)), some (.d (tuI l)), some (.d (tuI o)), z, y, none, none, none, none, some (.d (.int k))], rfl, by simp [gIn_tuI, inT], fun _ => ⟨.d (.int k), by simp, rfl⟩, rfl, rfl⟩) (by rw [List.length_map]; exact small_le (by omega)) rfl
  rw [filt_map (fun k => !decide (k ∈ o)) l _ (fun k => by simp [inT])] at hlc
  exact hlc
theorem put3 (a b c : Val) : putK ["many", "lot", "other"] ["other", "lot", "many"] [] [a, b, c] = [c, b, a] := rfl
theorem put2 (a b : Val) : putK ["many", "lot"] ["lot", "many"] [] [a, b] = [b, a] := rfl
theorem two_ok (h1 : 1 ≤ m) (h2 : m ≤ 9) (hl : Ris m l) (ho : Ris m o) : f__law_two_right [.d (.int m), .d (tuI l), .d (tuI o)] = some (.d (.bool true), [.d (.int m), .d (tuI l), .d (tuI o)]) := by
  unfold f__law_two_right
  refine fn_e (ρ0 := env3 m l o none none none none none none) rfl rfl rfl rfl ?_
  have A := lcA (l := l) (o := o) h2 h1
  have B := lcB (m := m) (o := o) (hl.len h2)
  have C := lcC (m := m) (o := o) (hl.len h2)
  have j1 := joined_ok h1 h2 hl ho
  rw [sort_both hl ho] at j1
  have c1 : f_common [.d (.int m), .d (tuI l), .d (tuI o)] = some (.d (tuI (shV l o)), [.d (.int m), .d (tuI l), .d (tuI o)]) := common_ok h1 h2 hl ho
  have s1 : f_less [.d (.int m), .d (tuI l), .d (tuI o)] = some (.d (tuI (leV l o)), [.d (.int m), .d (tuI l), .d (tuI o)]) := less_ok h1 h2 hl ho
  have w1 := within_lot_ok h1 h2 hl ho
  rw [part_left] at w1
  have j2 := joined_ok h1 h2 ho hl
  rw [sort_both' hl ho] at j2
  have c2 : f_common [.d (.int m), .d (tuI o), .d (tuI l)] = some (.d (tuI (shV o l)), [.d (.int m), .d (tuI o), .d (tuI l)]) := common_ok h1 h2 ho hl
  rw [sh_comm hl ho] at c2
  have s2 : f_less [.d (.int m), .d (tuI o), .d (tuI l)] = some (.d (tuI (leV o l)), [.d (.int m), .d (tuI o), .d (tuI l)]) := less_ok h1 h2 ho hl
  have j3 := joined_ok h1 h2 (leV_ris (o := o) hl) (leV_ris (o := l) ho)
  rw [diff_both hl ho] at j3
  have s3 : f_less [.d (.int m), .d (tuI (bothV m l o)), .d (tuI (shV l o))] = some (.d (tuI (leV (bothV m l o) (shV l o))), [.d (.int m), .d (tuI (bothV m l o)), .d (tuI (shV l o))]) := less_ok h1 h2 bothV_ris (shV_ris hl)
  have r1 : f_rest [.d (.int m), .d (tuI l)] = some (.d (tuI (reV m l)), [.d (.int m), .d (tuI l)]) := rest_ok h1 h2 hl
  have r2 : f_rest [.d (.int m), .d (tuI (reV m l))] = some (.d (tuI (reV m (reV m l))), [.d (.int m), .d (tuI (reV m l))]) := rest_ok h1 h2 reV_ris
  rw [rest_rest hl] at r2
  have r3 : f_rest [.d (.int m), .d (tuI (bothV m l o))] = some (.d (tuI (reV m (bothV m l o))), [.d (.int m), .d (tuI (bothV m l o))]) := rest_ok h1 h2 bothV_ris
  rw [rest_both hl ho] at r3
  have r4 : f_rest [.d (.int m), .d (tuI o)] = some (.d (tuI (reV m o)), [.d (.int m), .d (tuI o)]) := rest_ok h1 h2 ho
  have c3 : f_common [.d (.int m), .d (tuI (reV m l)), .d (tuI (reV m o))] = some (.d (tuI (shV (reV m l) (reV m o))), [.d (.int m), .d (tuI (reV m l)), .d (tuI (reV m o))]) := common_ok h1 h2 reV_ris reV_ris
  have r5 : f_rest [.d (.int m), .d (tuI (shV l o))] = some (.d (tuI (reV m (shV l o))), [.d (.int m), .d (tuI (shV l o))]) := rest_ok h1 h2 (shV_ris hl)
  rw [rest_sh hl ho] at r5
  have j4 := joined_ok h1 h2 (reV_ris (m := m) (l := l)) (reV_ris (m := m) (l := o))
  obtain ⟨s, rp⟩ := repr_ok h2 (bothV_ris (m := m) (l := l) (o := o)) (shV_ris (o := o) hl) (leV_ris (o := o) hl) (decide (leV l o = []))
  have z4 : (4 : Nat) ≤ sizeLine := small_le (by omega)
  have z2 : (2 : Nat) ≤ sizeLine := small_le (by omega)
  have z0 : (0 : Nat) ≤ sizeLine := small_le (by omega)
  have ge : gEq (tuI (leV l o)) (.tuple []) = some (.d (.bool (decide (leV l o = [])))) := gEq_tuI (leV l o) []
  unfold told at rp
  unfold c__law_two_right
  generalize f_joined = FJ at j1 j2 j3 j4 ⊢
  generalize f_common = FC at c1 c2 c3 ⊢
  generalize f_less = FL at s1 s2 s3 ⊢
  generalize f_is_within_lot = FW at w1 ⊢
  generalize f_rest = FR at r1 r2 r3 r4 r5 ⊢
  generalize sortI (reV m l ++ reV m o) = E1 at r5 j4
  generalize shV (reV m l) (reV m o) = E2 at r3 c3
  generalize leV (bothV m l o) (shV l o) = E3 at j3 s3
  generalize reV m l = E4 at r1 r2 c3 j4
  generalize reV m o = E5 at r4 c3 j4
  generalize decide (leV l o = []) = p at w1 rp ge
  generalize bothV m l o = BV at A j1 j2 s3 r3 rp
  generalize shV l o = SV' at B c1 c2 s3 r5 rp
  generalize leV l o = LV at C s1 j3 rp ge
  generalize leV o l = LW at s2 j3
  generalize gRepr = GR at rp ⊢
  have tb : ∀ x : List Int, gTuple [.list (x.map .int)] = some (.d (tuI x)) := fun _ => rfl
  generalize gTuple = GT at tb ⊢
  -- the three lots of the law's own
  refine ⟨env3 m l o (some (.d (tuI BV))) (some (.d (tuI SV'))) (some (.d (tuI LV))) (some (.d (.list [tuI BV, tuI SV', tuI LV, .bool p]))) (some (.d (.list [tuI BV, tuI SV', tuI LV, .bool p]))) (some (.d (.list [tuI BV, tuI SV', tuI LV, .bool p]))), ?_⟩
  refine (seq_nx (ρ1 := env3 m l o (some (.d (tuI BV))) none none none none none) ?_).trans ?_
  · simp [A, tb]
  refine (seq_nx (ρ1 := env3 m l o (some (.d (tuI BV))) (some (.d (tuI SV'))) none none none none) ?_).trans ?_
  · simp [B, tb]
  refine (seq_nx (ρ1 := env3 m l o (some (.d (tuI BV))) (some (.d (tuI SV'))) (some (.d (tuI LV))) none none none) ?_).trans ?_
  · simp [C, tb]
  refine (seq_nx (ρ1 := env3 m l o (some (.d (tuI BV))) (some (.d (tuI SV'))) (some (.d (tuI LV))) (some (.d (.list [tuI BV, tuI SV', tuI LV, .bool p]))) none none) ?_).trans ?_
  · simp [j1, c1, s1, w1, z4]
  refine (seq_nx (ρ1 := env3 m l o (some (.d (tuI BV))) (some (.d (tuI SV'))) (some (.d (tuI LV))) (some (.d (.list [tuI BV, tuI SV', tuI LV, .bool p]))) (some (.d (.list [tuI BV, tuI SV', tuI LV, .bool p]))) none) ?_).trans ?_
  · simp [put3, j1, c1, s1, w1, z4]
  refine (seq_nx (ρ1 := env3 m l o (some (.d (tuI BV))) (some (.d (tuI SV'))) (some (.d (tuI LV))) (some (.d (.list [tuI BV, tuI SV', tuI LV, .bool p]))) (some (.d (.list [tuI BV, tuI SV', tuI LV, .bool p]))) (some (.d (.list [tuI BV, tuI SV', tuI LV, .bool p])))) ?_).trans ?_
  · simp [ge, z4, z0]
  refine (seq_nx (ρ1 := env3 m l o (some (.d (tuI BV))) (some (.d (tuI SV'))) (some (.d (tuI LV))) (some (.d (.list [tuI BV, tuI SV', tuI LV, .bool p]))) (some (.d (.list [tuI BV, tuI SV', tuI LV, .bool p]))) (some (.d (.list [tuI BV, tuI SV', tuI LV, .bool p])))) ?_).trans ?_
  · simp [ev_sif, ev_tor, rp, gNe_str, j2, c2, gNe_tuI, z2]
  refine (seq_nx (ρ1 := env3 m l o (some (.d (tuI BV))) (some (.d (tuI SV'))) (some (.d (tuI LV))) (some (.d (.list [tuI BV, tuI SV', tuI LV, .bool p]))) (some (.d (.list [tuI BV, tuI SV', tuI LV, .bool p]))) (some (.d (.list [tuI BV, tuI SV', tuI LV, .bool p])))) ?_).trans ?_
  · simp [ev_sif, ev_tor, s1, s2, j3, s3, r1, r2, gNe_tuI]
  simp [ev_and, r3, r1, r4, c3, gEq_tuI, put2, r5, j4]
end
end K12

namespace K12
open PySem DL
open L2 (CDivP CMul atI ixN CPow)
/-! ### one turn -/
theorem allL_map (n : Nat) : ∃ ls : List (List Int), allL n = ls.map tuI := by
  have : ∀ ds : List PyData, (∀ d ∈ ds, ∃ l, d = tuI l) → ∃ ls : List (List Int), ds = ls.map tuI := fun ds => by
    induction ds with
    | nil => exact fun _ => ⟨[], rfl⟩
    | cons d ds ih =>
      intro h
      obtain ⟨l, rfl⟩ := h d List.mem_cons_self
      obtain ⟨ls, rfl⟩ := ih fun e m => h e (List.mem_cons_of_mem _ m)
      exact ⟨l :: ls, rfl⟩
  exact this _ fun d hd => by
    obtain ⟨l, _, e⟩ := allL_mem hd
    exact ⟨l, e⟩
theorem allL_sorted (n : Nat) : gSorted [.list (allL n)] = some (.n (.list (allL n))) := by
  obtain ⟨ls, e⟩ := allL_map n
  have h : sortOk (allL n) = true := by
    rw [e]
    exact sortOk_tuI
  have h2 : sortD (allL n) = allL n := by
    unfold allL
    exact sortD_twice _
  have h3 : gSorted [.list (allL n)] = some (.n (.list (sortD (allL n)))) := if_pos h
  rw [h3, h2]
def pows : List PyData := [.int 1, .int 2, .int 4, .int 8, .int 16, .int 32, .int 64, .int 128, .int 256, .int 512]
theorem pows_at (k : Int) (h1 : 1 ≤ k) (h2 : k ≤ 9) : gIx (.list pows) (.int k) = some (.d (.int ((2 ^ k.toNat : Nat) : Int))) := by
  have : k = 1 ∨ k = 2 ∨ k = 3 ∨ k = 4 ∨ k = 5 ∨ k = 6 ∨ k = 7 ∨ k = 8 ∨ k = 9 := by omega
  rcases this with rfl | rfl | rfl | rfl | rfl | rfl | rfl | rfl | rfl <;> rfl
theorem gAdd_ll {xs ys : List PyData} (h : xs.length + ys.length ≤ sizeLine) : gAdd (.list xs) (.list ys) = some (.n (.list (xs ++ ys))) := if_pos h
abbrev env7 (p : SV) (k : Int) (A : List PyData) (c d e f : Option SV) : DL.Env := [some p, some (.d (.int k)), some (.d (.list A)), c, d, e, f]
theorem turn_ok (k : Int) (A : List PyData) (n : Nat) (hk : k.toNat = n) (h1 : 1 ≤ k) (h2 : k ≤ 9) (hA : ∀ d ∈ A, ∃ l, Ris k l ∧ d = tuI l) (hne : A ≠ []) (hlen : A.length < 2 ^ 29) (a b : Int) (c d e f : Option SV) :
    ∃ ρ', (sSeq (sPar [0] [0] [4, 5] (cCons (cCall 2 f__law_pick [true, false] (cCons (cVar 0) (cCons (cVar 2) cNil))) (cCons (cCall 2 f__law_pick [true, false] (cCons (cVar 0) (cCons (cVar 2) cNil))) cNil)))
    (sSeq (sIf (tOrT (tNotT (cTst (cCall 3 f__law_two_right [false, false, false] (cCons (cVar 1) (cCons (cVar 4) (cCons (cVar 5) cNil)))))) (tNotT (cTst (cCall 3 f__law_two_right [false, false, false] (cCons (cVar 1) (cCons (cVar 4) (cCons (cVar 4) cNil))))))) (sSeq (sRet [0] (cCst (.bool false)))
    sNx) sNx)
    (sSeq (sSet [0] [0] 6 (cCall 2 f__law_any [true, false] (cCons (cVar 0) (cCons (cVar 1) cNil))))
    (sSeq (sIf (cTst (cOp2 gNe (cLst (cCons (cCall 2 f_is_lot [false, false] (cCons (cVar 1) (cCons (cVar 6) cNil))) (cCons (cCallK 2 f_is_lot [false, false] ["many", "value"] ["value", "many"] cNil (cCons (cVar 6) (cCons (cVar 1) cNil))) (cCons (cCall 2 f_is_lot [false, false] (cCons (cVar 1) (cCons (cVar 4) cNil))) (cCons (cCall 2 f_is_lot [false, false] (cCons (cCst (.int 9)) (cCons (cVar 4) cNil))) cNil))))) (cOp2 gAdd (cOp2 gMul (cLst (cCons (cCall 2 f__law_is_lot [false, false] (cCons (cVar 1) (cCons (cVar 6) cNil))) cNil)) (cCst (.int 2))) (cLst (cCons (cCst (.bool true)) (cCons (cCst (.bool true)) cNil)))))) (sSeq (sRet [0] (cCst (.bool false)))
    sNx) sNx)
    sNx)))) (env7 (pot a b) k A c d e f) = some (.nx, ρ') ∧ ∃ a b c d e f, ρ' = env7 (pot a b) k A c d e f := by
  obtain ⟨a1, b1, x, p1, hx⟩ := pick_ok a b A hne hlen
  obtain ⟨l, rl, rfl⟩ := hA x hx
  obtain ⟨a2, b2, y, p2, hy⟩ := pick_ok a1 b1 A hne hlen
  obtain ⟨o, ro, rfl⟩ := hA y hy
  obtain ⟨a3, b3, v, q, hv⟩ := any_ok a2 b2 k (by omega) h2
  have t1 := two_ok h1 h2 rl ro
  have t2 := two_ok h1 h2 rl rl
  have i1 := islot_ok h1 h2 v hv
  have ll : ∀ xs, tuI l = .tuple xs → xs.length ≤ 1000 := fun xs e => by
    cases e
    have := rl.len h2
    rw [List.length_map]
    omega
  have i2 := islot_ok h1 h2 (tuI l) ll
  rw [lotB_iff.mpr rl] at i2
  have i3 := islot_ok (m := 9) (by omega) (by omega) (tuI l) ll
  rw [lotB_iff.mpr (rl.up h2)] at i3
  have i4 := lawis_ok v k hv
  have gm : ∀ q : Bool, gMul (.list [.bool q]) (.int 2) = some (.n (.list [.bool q, .bool q])) := fun q => by simp [gMul]
  have ga : ∀ q : Bool, gAdd (.list [.bool q, .bool q]) (.list [.bool true, .bool true]) = some (.n (.list [.bool q, .bool q, .bool true, .bool true])) := fun q => gAdd_ll (xs := [.bool q, .bool q]) (ys := [.bool true, .bool true]) (small_le (by simp))
  have gn : ∀ q : Bool, gNe (.list [.bool q, .bool q, .bool true, .bool true]) (.list [.bool q, .bool q, .bool true, .bool true]) = some (.d (.bool false)) := fun q => gNe_same (by cases q <;> rfl)
  have z4 : (4 : Nat) ≤ sizeLine := small_le (by omega)
  have z2 : (2 : Nat) ≤ sizeLine := small_le (by omega)
  have z1 : (1 : Nat) ≤ sizeLine := small_le (by omega)
  have pk : ∀ a b : Val, putK ["many", "value"] ["value", "many"] [] [a, b] = [b, a] := fun _ _ => rfl
  generalize lotB k v = w at i1 i4
  generalize f__law_pick = FP at p1 p2 ⊢
  generalize f__law_two_right = FT at t1 t2 ⊢
  generalize f__law_any = FA at q ⊢
  generalize f_is_lot = FI at i1 i2 i3 ⊢
  generalize f__law_is_lot = FL at i4 ⊢
  generalize gMul = GM at gm ⊢
  generalize gNe = GE at gn ⊢
  refine ⟨env7 (pot a3 b3) k A c (some (.d (tuI l))) (some (.d (tuI o))) (some (.d v)), ?_, a3, b3, c, _, _, _, rfl⟩
  refine (seq_nx (ρ1 := env7 (pot a2 b2) k A c (some (.d (tuI l))) (some (.d (tuI o))) f) ?_).trans ?_
  · simp [p1, p2]
  refine (seq_nx (ρ1 := env7 (pot a2 b2) k A c (some (.d (tuI l))) (some (.d (tuI o))) f) ?_).trans ?_
  · simp [ev_sif, ev_tor, ev_tnot, t1, t2]
  refine (seq_nx (ρ1 := env7 (pot a3 b3) k A c (some (.d (tuI l))) (some (.d (tuI o))) (some (.d v))) ?_).trans ?_
  · simp [q]
  refine (seq_nx (ρ1 := env7 (pot a3 b3) k A c (some (.d (tuI l))) (some (.d (tuI o))) (some (.d v))) ?_).trans rfl
  simp [ev_sif, i1, i2, i3, i4, pk, gm, ga, gn, z4, z2, z1]
theorem right_ok (a b : Int) : ∃ a' b', f__law_right [pot a b] = some (.d (.bool true), [pot a' b']) := by
  obtain ⟨a1, b1, j, e1, j1, j2⟩ := draw_ok a b 9 (by omega) (by omega)
  have hk1 : 1 ≤ 1 + j := by omega
  have hk2 : 1 + j ≤ 9 := by omega
  have e2 : (cOp2 gAdd (cCst (.int 1)) (cCall 2 f__law_draw [true, false] (cCons (cVar 0) (cCons (cCst (.int 9)) cNil)))) [some (pot a b), none, none, none, none, none, none] = some (.d (.int (1 + j)), [some (pot a1 b1), none, none, none, none, none, none]) := by
    simp [e1, gAdd, oI]
  generalize 1 + j = k at *
  have hn : k.toNat ≤ 9 := by omega
  have hkk : (k.toNat : Int) = k := by omega
  have hA : ∀ d ∈ allL k.toNat, ∃ l, Ris k l ∧ d = tuI l := fun d hd => by
    obtain ⟨l, hl, e⟩ := allL_mem hd
    exact ⟨l, by rw [← hkk]; exact hl, e⟩
  have hlen := allL_len k.toNat
  have hp := pow9 hn
  have hpos : 0 < 2 ^ k.toNat := Nat.pow_pos (by omega)
  have hsh := allL_shaped k.toNat
  have hso := allL_sorted k.toNat
  have l1 := lawlots_ok rfl (by omega) hn (rfl : allL k.toNat = allL k.toNat)
  have l2 := lots_ok rfl hk1 hn (rfl : allL k.toNat = allL k.toNat)
  have hw := pows_at k hk1 hk2
  rw [← hlen] at hw
  generalize allL k.toNat = A at *
  have hne : A ≠ [] := fun e => by rw [e] at hlen; simp at hlen; omega
  have g1 : gNe (.list A) (.list A) = some (.d (.bool false)) := gNe_same hsh
  have gl : gLen [.list A] = some (.d (.int (A.length : Int))) := rfl
  have turn := fun a b c d e f => turn_ok k A k.toNat rfl hk1 hk2 hA hne (by omega) a b c d e f
  generalize (A.length : Int) = w at hw gl
  have g2 : gNe (.int w) (.int w) = some (.d (.bool false)) := gNe_same rfl
  have z10 : (10 : Nat) ≤ sizeLine := small_le (by omega)
  have hfor := for_ix (ci := cRng (cCons (cCst (.int 12)) cNil)) (st := gN [0] 3) (body := _) (ρ := env7 (pot a1 b1) k A none none none none) (ρ1 := env7 (pot a1 b1) k A none none none none) (ρL := env7 (pot a1 b1) k A none none none none) (r := .d .none) (ds := numsD 0 12)
    (I := fun _ ρ => ∃ a b c d e f, ρ = env7 (pot a b) k A c d e f) (J := fun ρ => ∃ a b c d e f, ρ = env7 (pot a b) k A c d e f) (by simp [cRng]) rfl ⟨a1, b1, none, none, none, none, rfl⟩
    (fun i d ρ hd ⟨a, b, c, e, f, g, hρ⟩ => by
      subst hρ
      obtain ⟨ρ', q1, q2⟩ := turn a b (some (.d d)) e f g
      exact ⟨env7 (pot a b) k A (some (.d d)) e f g, ρ', rfl, q1, q2⟩) (fun ρ2 ⟨a, b, c, e, f, g, hρ⟩ => ⟨ρ2, rfl, a, b, c, e, f, g, hρ⟩)
  obtain ⟨ρ3, q1, a3, b3, c3, d3, e3, f3, rfl⟩ := hfor
  refine ⟨a3, b3, ?_⟩
  unfold f__law_right
  refine (fn_rt (r := .d (.bool true)) (ρ' := env7 (pot a3 b3) k A c3 d3 e3 f3) (ρ0 := [some (pot a b), none, none, none, none, none, none]) rfl rfl rfl ?_).trans rfl
  unfold c__law_right
  refine (seq_nx (ρ1 := [some (pot a1 b1), some (.d (.int k)), none, none, none, none, none]) ?_).trans ?_
  · rw [ev_set, e2]
    rfl
  refine (seq_nx (ρ1 := env7 (pot a1 b1) k A none none none none) ?_).trans ?_
  · generalize f__law_lots = F at l1 ⊢
    simp [l1]
  refine (seq_nx (ρ1 := env7 (pot a1 b1) k A none none none none) ?_).trans ?_
  · have pk : ∀ a : Val, putK ["many"] ["many"] [] [a] = [a] := fun _ => rfl
    unfold pows at hw
    generalize f_lots = F at l2 ⊢
    generalize gNe = GE at g1 g2 ⊢
    generalize gLen = GL at gl ⊢
    generalize gIx = GI at hw ⊢
    generalize gSorted = GS at hso ⊢
    simp [ev_sif, ev_tor, l2, g1, pk, hso, gl, z10, hw, g2]
  refine (seq_nx q1).trans ?_
  simp
end K12

namespace K12
open PySem DL
open L2 (CDivP CMul atI ixN CPow)
theorem script_at {ns : List Int} {k : Int} (h0 : 0 ≤ k) (h1 : k < ns.length) : ∃ z : Int, gIx (.list (ns.map .int)) (.int k) = some (.d (.int z)) := by
  obtain ⟨x, hx, e⟩ := ix_some (xs := ns.map .int) h0 (by rw [List.length_map]; exact h1)
  obtain ⟨z, _, rfl⟩ := mem_int hx
  exact ⟨z, by show (atI (List.map PyData.int ns) k).map Val.d = _; rw [e]; rfl⟩
theorem gMul_i {i j : Int} (h : CMul i j) : gMul (.int i) (.int j) = some (.d (.int (i * j))) := if_pos h
theorem gMod_i {i j : Int} (h : 0 < j) : gMod (.int i) (.int j) = some (.d (.int (i % j))) := by
  simp [gMod, gI2, h, oI]
theorem pot_ok (ns : List Int) (k : Int) (h0 : 0 ≤ k) : ∃ a b, f__law_pot [.ro (ns.map .int), .d (.int k)] = some (.n (.list [.int a, .int b]), [.ro (ns.map .int), .d (.int k)]) := by
  have gl : gLen [.list (ns.map .int)] = some (.d (.int ((ns.map PyData.int).length : Int))) := rfl
  have hat := script_at (ns := ns) h0
  rw [← List.length_map (as := ns) (f := PyData.int)] at hat
  have m1 : gMul (.int 1935) (.int k) = some (.d (.int (1935 * k))) := gMul_i (.inl ⟨by omega, by omega⟩)
  have p1 : gPow (.int 10) (.int 18) = some (.d (.int (10 ^ 18))) := rfl
  generalize (10 : Int) ^ 18 = P at p1
  -- the cell
  have cell : ∃ c : Int, (cIf (cTst (cOp2 gLt (cVar 1) (cFn gLen (cCons (cVar 0) cNil)))) (cFn gAbs (cCons (cOp2 gIx (cVar 0) (cVar 1)) cNil)) (cOp2 gAdd (cOp2 gMul (cCst (.int 1935)) (cVar 1)) (cCst (.int 1239)))) [some (.ro (ns.map .int)), some (.d (.int k)), none] = some (.d (.int c), [some (.ro (ns.map .int)), some (.d (.int k)), none]) := by
    generalize ((ns.map PyData.int).length : Int) = w at gl hat
    generalize ns.map PyData.int = xs at gl hat ⊢
    generalize gLen = GL at gl ⊢
    by_cases h : k < w
    · obtain ⟨z, ez⟩ := hat h
      generalize gIx = GI at ez ⊢
      refine ⟨if z < 0 then -z else z, ?_⟩
      simp [ev_if, slotD, gl, gLt, gI2, oB, h, ez, gAbs, oI]
    · refine ⟨1935 * k + 1239, ?_⟩
      generalize gMul = GM at m1 ⊢
      simp [ev_if, slotD, gl, gLt, gI2, oB, h, m1, gAdd, oI]
  obtain ⟨c, ec⟩ := cell
  have z2 : (2 : Nat) ≤ sizeLine := small_le (by omega)
  have m2 : ∀ i : Int, gMul (.int i) (.int 40915) = some (.d (.int (i * 40915))) := fun i => gMul_i (mul_k (by omega) (by omega))
  have d1 : ∀ i : Int, gMod (.int i) (.int 2147483549) = some (.d (.int (i % 2147483549))) := fun i => gMod_i (by omega)
  have d2 : ∀ i : Int, gMod (.int i) (.int 2147483563) = some (.d (.int (i % 2147483563))) := fun i => gMod_i (by omega)
  refine ⟨if c - P > 0 then c - P else 0, (c % 2147483549 * 40915 + 1935 * k + 1239) % 2147483563 + 1, ?_⟩
  unfold f__law_pot
  refine fn_e (ρ0 := [some (.ro (ns.map .int)), some (.d (.int k)), none]) rfl rfl rfl rfl ?_
  unfold c__law_pot
  generalize ns.map PyData.int = xs at ec ⊢
  refine ⟨[some (.ro xs), some (.d (.int k)), some (.d (.int c))], (seq_nx (ρ1 := [some (.ro xs), some (.d (.int k)), some (.d (.int c))]) ?_).trans ?_⟩
  · rw [ev_set, ec]
    rfl
  · generalize gMul = GM at m1 m2 ⊢
    generalize gMod = GD at d1 d2 ⊢
    generalize gPow = GP at p1 ⊢
    simp [slotD, gMax2, gSub, gI2, oI, p1, gInt, d1, d2, m1, m2, gAdd, z2]
theorem law_true (ns : List Int) (hn : ns.length ≤ 63) (_hb : ∀ z ∈ ns, Builtin.Int.intBits z ≤ 1048576) : ∃ outs, f_law [.ro (ns.map .int)] = some (.d (.bool true), outs) := by
  have hp := fun k h => pot_ok ns k h
  have gl : gLen [.list (ns.map .int)] = some (.d (.int ((ns.map PyData.int).length : Int))) := rfl
  have hw : (0 : Int) ≤ ((ns.map PyData.int).length : Int) := by omega
  generalize ((ns.map PyData.int).length : Int) = w at gl hw
  generalize ns.map PyData.int = xs at gl hp ⊢
  have ht : ∃ t : Int, 0 ≤ t ∧ t ≤ 2 ∧ (cRng (cCons (cFn gMax2 (cCons (cCst (.int 1)) (cCons (cFn gMin2 (cCons (cCst (.int 2)) (cCons (cFn gLen (cCons (cVar 0) cNil)) cNil))) cNil))) cNil)) [some (.ro xs), none] = some (numsD 0 t.toNat, [some (.ro xs), none], .d .none) := by
    generalize gLen = GL at gl ⊢
    have e : ∃ t : Int, 0 ≤ t ∧ t ≤ 2 ∧ (cFn gMax2 (cCons (cCst (.int 1)) (cCons (cFn gMin2 (cCons (cCst (.int 2)) (cCons (cFn GL (cCons (cVar 0) cNil)) cNil))) cNil))) [some (.ro xs), none] = some (.d (.int t), [some (.ro xs), none]) := by
      refine ⟨if (if w < 2 then w else 2) > 1 then (if w < 2 then w else 2) else 1, by split <;> (try split) <;> omega, by split <;> (try split) <;> omega, ?_⟩
      simp [slotD, gl, gMin2, gMax2, oI]
    obtain ⟨t, t0, t1, e⟩ := e
    refine ⟨t, t0, t1, ?_⟩
    generalize cFn gMax2 (cCons (cCst (.int 1)) (cCons (cFn gMin2 (cCons (cCst (.int 2)) (cCons (cFn GL (cCons (cVar 0) cNil)) cNil))) cNil)) = C at e ⊢
    simp [cRng, e]
    omega
  obtain ⟨t, t0, t1, et⟩ := ht
  have hlc := lc_pure (ρ := [some (.ro xs), none]) (ρ1 := [some (.ro xs), none]) (ρL := [some (.ro xs), none]) (ρ0 := [some (.ro xs), none]) (ρ3 := [some (.ro xs), none]) (is := [1]) (b := .name 1) (ct := cYes) (r := .d .none)
    (ce := cCall 1 f__law_right [true] (cCons (cCall 2 f__law_pot [false, false] (cCons (cVar 0) (cCons (cVar 1) cNil))) cNil)) (fun _ => true) (fun _ => .bool true) et rfl rfl rfl (fun d hd => by
      rw [nums_range] at hd
      obtain ⟨k, hk, rfl⟩ := mem_int hd
      have hk := rangeI_mem.mp hk
      obtain ⟨a, b, e1⟩ := hp k hk.1
      obtain ⟨a', b', e2⟩ := right_ok a b
      refine ⟨[some (.ro xs), some (.d (.int k))], rfl, rfl, fun _ => ⟨.d (.bool true), ?_, rfl⟩, rfl, rfl⟩
      unfold pot at e2
      generalize f__law_pot = FP at e1 ⊢
      generalize f__law_right = FR at e2 ⊢
      simp [e1, e2]) (by rw [numsD_len]; exact small_le (by omega)) rfl
  rw [ft] at hlc
  have hb : ∀ l : List PyData, gAll [.list (l.map fun _ => .bool true)] = some (.d (.bool true)) := fun l => by
    have e : l.map (fun _ => PyData.bool true) = (l.map fun _ => true).map .bool := by rw [List.map_map]; rfl
    rw [e]
    show (match boolsD ((l.map fun _ => true).map .bool) with
      | some bs => oB (bs.all id)
      | none => none) = _
    rw [bools_map]
    simp [oB]
  refine ⟨[.ro xs], ?_⟩
  unfold f_law
  refine fn_e (ρ0 := [some (.ro xs), none]) rfl rfl rfl rfl ?_
  unfold c_law
  generalize cLC [1] _ _ _ _ = C at hlc ⊢
  generalize gAll = GA at hb ⊢
  refine ⟨[some (.ro xs), none], ?_⟩
  simp [hlc, hb]
end K12

namespace K12
open PySem PySem.Spec PyProof.Rows L2 DL
def top_mk {K : PySem.W.Frag} {h : Heap} {mg : Str → Option Value} (X : K.In h) (G : h.Ns mainGlobals mg)
    {f__law_pot_a : Addr} {od__law_pot an__law_pot : Option Addr} {sl__law_pot : Array (Option Value)} {oc__law_pot kV__law_pot dc__law_pot pm__law_pot cd__law_pot ct__law_pot : Value}
    {f__law_draw_a : Addr} {od__law_draw an__law_draw : Option Addr} {sl__law_draw : Array (Option Value)} {oc__law_draw kV__law_draw dc__law_draw pm__law_draw cd__law_draw ct__law_draw : Value}
    {f__law_pick_a : Addr} {od__law_pick an__law_pick : Option Addr} {sl__law_pick : Array (Option Value)} {oc__law_pick kV__law_pick dc__law_pick pm__law_pick cd__law_pick ct__law_pick : Value}
    {f__law_any_a : Addr} {od__law_any an__law_any : Option Addr} {sl__law_any : Array (Option Value)} {oc__law_any kV__law_any dc__law_any pm__law_any cd__law_any ct__law_any : Value}
    {f__law_is_lot_a : Addr} {od__law_is_lot an__law_is_lot : Option Addr} {sl__law_is_lot : Array (Option Value)} {oc__law_is_lot kV__law_is_lot dc__law_is_lot pm__law_is_lot cd__law_is_lot ct__law_is_lot : Value}
    {f__law_lots_a : Addr} {od__law_lots an__law_lots : Option Addr} {sl__law_lots : Array (Option Value)} {oc__law_lots kV__law_lots dc__law_lots pm__law_lots cd__law_lots ct__law_lots : Value}
    {f_shared_a : Addr} {od_shared an_shared : Option Addr} {sl_shared : Array (Option Value)} {oc_shared kV_shared dc_shared pm_shared cd_shared ct_shared : Value}
    {f_is_rising_a : Addr} {od_is_rising an_is_rising : Option Addr} {sl_is_rising : Array (Option Value)} {oc_is_rising kV_is_rising dc_is_rising pm_is_rising cd_is_rising ct_is_rising : Value}
    {f_is_integer_a : Addr} {od_is_integer an_is_integer : Option Addr} {sl_is_integer : Array (Option Value)} {oc_is_integer kV_is_integer dc_is_integer pm_is_integer cd_is_integer ct_is_integer : Value}
    {f_is_within_a : Addr} {od_is_within an_is_within : Option Addr} {sl_is_within : Array (Option Value)} {oc_is_within kV_is_within dc_is_within pm_is_within cd_is_within ct_is_within : Value}
    {f_are_counts_below_a : Addr} {od_are_counts_below an_are_counts_below : Option Addr} {sl_are_counts_below : Array (Option Value)} {oc_are_counts_below kV_are_counts_below dc_are_counts_below pm_are_counts_below cd_are_counts_below ct_are_counts_below : Value}
    {f_is_lot_of_a : Addr} {od_is_lot_of an_is_lot_of : Option Addr} {sl_is_lot_of : Array (Option Value)} {oc_is_lot_of kV_is_lot_of dc_is_lot_of pm_is_lot_of cd_is_lot_of ct_is_lot_of : Value}
    {f_want_lot_a : Addr} {od_want_lot an_want_lot : Option Addr} {sl_want_lot : Array (Option Value)} {oc_want_lot kV_want_lot dc_want_lot pm_want_lot cd_want_lot ct_want_lot : Value}
    {f_want_many_a : Addr} {od_want_many an_want_many : Option Addr} {sl_want_many : Array (Option Value)} {oc_want_many kV_want_many dc_want_many pm_want_many cd_want_many ct_want_many : Value}
    {f_want_other_a : Addr} {od_want_other an_want_other : Option Addr} {sl_want_other : Array (Option Value)} {oc_want_other kV_want_other dc_want_other pm_want_other cd_want_other ct_want_other : Value}
    {f_want_two_a : Addr} {od_want_two an_want_two : Option Addr} {sl_want_two : Array (Option Value)} {oc_want_two kV_want_two dc_want_two pm_want_two cd_want_two ct_want_two : Value}
    {f_common_a : Addr} {od_common an_common : Option Addr} {sl_common : Array (Option Value)} {oc_common kV_common dc_common pm_common cd_common ct_common : Value}
    {f_is_part_a : Addr} {od_is_part an_is_part : Option Addr} {sl_is_part : Array (Option Value)} {oc_is_part kV_is_part dc_is_part pm_is_part cd_is_part ct_is_part : Value}
    {f_is_within_lot_a : Addr} {od_is_within_lot an_is_within_lot : Option Addr} {sl_is_within_lot : Array (Option Value)} {oc_is_within_lot kV_is_within_lot dc_is_within_lot pm_is_within_lot cd_is_within_lot ct_is_within_lot : Value}
    {f_both_a : Addr} {od_both an_both : Option Addr} {sl_both : Array (Option Value)} {oc_both kV_both dc_both pm_both cd_both ct_both : Value}
    {f_joined_a : Addr} {od_joined an_joined : Option Addr} {sl_joined : Array (Option Value)} {oc_joined kV_joined dc_joined pm_joined cd_joined ct_joined : Value}
    {f_left_out_a : Addr} {od_left_out an_left_out : Option Addr} {sl_left_out : Array (Option Value)} {oc_left_out kV_left_out dc_left_out pm_left_out cd_left_out ct_left_out : Value}
    {f_less_a : Addr} {od_less an_less : Option Addr} {sl_less : Array (Option Value)} {oc_less kV_less dc_less pm_less cd_less ct_less : Value}
    {f_rest_of_a : Addr} {od_rest_of an_rest_of : Option Addr} {sl_rest_of : Array (Option Value)} {oc_rest_of kV_rest_of dc_rest_of pm_rest_of cd_rest_of ct_rest_of : Value}
    {f_rest_a : Addr} {od_rest an_rest : Option Addr} {sl_rest : Array (Option Value)} {oc_rest kV_rest dc_rest pm_rest cd_rest ct_rest : Value}
    {f__law_two_right_a : Addr} {od__law_two_right an__law_two_right : Option Addr} {sl__law_two_right : Array (Option Value)} {oc__law_two_right kV__law_two_right dc__law_two_right pm__law_two_right cd__law_two_right ct__law_two_right : Value}
    {f_is_lot_a : Addr} {od_is_lot an_is_lot : Option Addr} {sl_is_lot : Array (Option Value)} {oc_is_lot kV_is_lot dc_is_lot pm_is_lot cd_is_lot ct_is_lot : Value}
    {f_all_lots_a : Addr} {od_all_lots an_all_lots : Option Addr} {sl_all_lots : Array (Option Value)} {oc_all_lots kV_all_lots dc_all_lots pm_all_lots cd_all_lots ct_all_lots : Value}
    {f_lots_a : Addr} {od_lots an_lots : Option Addr} {sl_lots : Array (Option Value)} {oc_lots kV_lots dc_lots pm_lots cd_lots ct_lots : Value}
    {f__law_right_a : Addr} {od__law_right an__law_right : Option Addr} {sl__law_right : Array (Option Value)} {oc__law_right kV__law_right dc__law_right pm__law_right cd__law_right ct__law_right : Value}
    {f_law_a : Addr} {od_law an_law : Option Addr} {sl_law : Array (Option Value)} {oc_law kV_law dc_law pm_law cd_law ct_law : Value}
    (a__law_pot : PySem.W.nsIn K mainGlobals "_law_pot" = some (some (.ref f__law_pot_a))) (l__law_pot : K.lookup f__law_pot_a = some ⟨oc__law_pot, od__law_pot, .func (PySem.W.fnOf "_law_pot" "_law_pot" (defArgs s__law_pot) (defBody s__law_pot) (defScope s__law_pot) .none kV__law_pot dc__law_pot pm__law_pot an__law_pot cd__law_pot ct__law_pot), sl__law_pot⟩) (c__law_pot : PySem.W.codeIn K cd__law_pot "_law_pot" = true) (k__law_pot : PySem.W.keepIn K (.ref f__law_pot_a) = true)
    (a__law_draw : PySem.W.nsIn K mainGlobals "_law_draw" = some (some (.ref f__law_draw_a))) (l__law_draw : K.lookup f__law_draw_a = some ⟨oc__law_draw, od__law_draw, .func (PySem.W.fnOf "_law_draw" "_law_draw" (defArgs s__law_draw) (defBody s__law_draw) (defScope s__law_draw) .none kV__law_draw dc__law_draw pm__law_draw an__law_draw cd__law_draw ct__law_draw), sl__law_draw⟩) (c__law_draw : PySem.W.codeIn K cd__law_draw "_law_draw" = true) (k__law_draw : PySem.W.keepIn K (.ref f__law_draw_a) = true)
    (a__law_pick : PySem.W.nsIn K mainGlobals "_law_pick" = some (some (.ref f__law_pick_a))) (l__law_pick : K.lookup f__law_pick_a = some ⟨oc__law_pick, od__law_pick, .func (PySem.W.fnOf "_law_pick" "_law_pick" (defArgs s__law_pick) (defBody s__law_pick) (defScope s__law_pick) .none kV__law_pick dc__law_pick pm__law_pick an__law_pick cd__law_pick ct__law_pick), sl__law_pick⟩) (c__law_pick : PySem.W.codeIn K cd__law_pick "_law_pick" = true) (k__law_pick : PySem.W.keepIn K (.ref f__law_pick_a) = true)
    (a__law_any : PySem.W.nsIn K mainGlobals "_law_any" = some (some (.ref f__law_any_a))) (l__law_any : K.lookup f__law_any_a = some ⟨oc__law_any, od__law_any, .func (PySem.W.fnOf "_law_any" "_law_any" (defArgs s__law_any) (defBody s__law_any) (defScope s__law_any) .none kV__law_any dc__law_any pm__law_any an__law_any cd__law_any ct__law_any), sl__law_any⟩) (c__law_any : PySem.W.codeIn K cd__law_any "_law_any" = true) (k__law_any : PySem.W.keepIn K (.ref f__law_any_a) = true)
    (a__law_is_lot : PySem.W.nsIn K mainGlobals "_law_is_lot" = some (some (.ref f__law_is_lot_a))) (l__law_is_lot : K.lookup f__law_is_lot_a = some ⟨oc__law_is_lot, od__law_is_lot, .func (PySem.W.fnOf "_law_is_lot" "_law_is_lot" (defArgs s__law_is_lot) (defBody s__law_is_lot) (defScope s__law_is_lot) .none kV__law_is_lot dc__law_is_lot pm__law_is_lot an__law_is_lot cd__law_is_lot ct__law_is_lot), sl__law_is_lot⟩) (c__law_is_lot : PySem.W.codeIn K cd__law_is_lot "_law_is_lot" = true) (k__law_is_lot : PySem.W.keepIn K (.ref f__law_is_lot_a) = true)
    (a__law_lots : PySem.W.nsIn K mainGlobals "_law_lots" = some (some (.ref f__law_lots_a))) (l__law_lots : K.lookup f__law_lots_a = some ⟨oc__law_lots, od__law_lots, .func (PySem.W.fnOf "_law_lots" "_law_lots" (defArgs s__law_lots) (defBody s__law_lots) (defScope s__law_lots) .none kV__law_lots dc__law_lots pm__law_lots an__law_lots cd__law_lots ct__law_lots), sl__law_lots⟩) (c__law_lots : PySem.W.codeIn K cd__law_lots "_law_lots" = true) (k__law_lots : PySem.W.keepIn K (.ref f__law_lots_a) = true)
    (a_shared : PySem.W.nsIn K mainGlobals "shared" = some (some (.ref f_shared_a))) (l_shared : K.lookup f_shared_a = some ⟨oc_shared, od_shared, .func (PySem.W.fnOf "shared" "shared" (defArgs s_shared) (defBody s_shared) (defScope s_shared) .none kV_shared dc_shared pm_shared an_shared cd_shared ct_shared), sl_shared⟩) (c_shared : PySem.W.codeIn K cd_shared "shared" = true) (k_shared : PySem.W.keepIn K (.ref f_shared_a) = true)
    (a_is_rising : PySem.W.nsIn K mainGlobals "is_rising" = some (some (.ref f_is_rising_a))) (l_is_rising : K.lookup f_is_rising_a = some ⟨oc_is_rising, od_is_rising, .func (PySem.W.fnOf "is_rising" "is_rising" (defArgs s_is_rising) (defBody s_is_rising) (defScope s_is_rising) .none kV_is_rising dc_is_rising pm_is_rising an_is_rising cd_is_rising ct_is_rising), sl_is_rising⟩) (c_is_rising : PySem.W.codeIn K cd_is_rising "is_rising" = true) (k_is_rising : PySem.W.keepIn K (.ref f_is_rising_a) = true)
    (a_is_integer : PySem.W.nsIn K mainGlobals "is_integer" = some (some (.ref f_is_integer_a))) (l_is_integer : K.lookup f_is_integer_a = some ⟨oc_is_integer, od_is_integer, .func (PySem.W.fnOf "is_integer" "is_integer" (defArgs s_is_integer) (defBody s_is_integer) (defScope s_is_integer) .none kV_is_integer dc_is_integer pm_is_integer an_is_integer cd_is_integer ct_is_integer), sl_is_integer⟩) (c_is_integer : PySem.W.codeIn K cd_is_integer "is_integer" = true) (k_is_integer : PySem.W.keepIn K (.ref f_is_integer_a) = true)
    (a_is_within : PySem.W.nsIn K mainGlobals "is_within" = some (some (.ref f_is_within_a))) (l_is_within : K.lookup f_is_within_a = some ⟨oc_is_within, od_is_within, .func (PySem.W.fnOf "is_within" "is_within" (defArgs s_is_within) (defBody s_is_within) (defScope s_is_within) .none kV_is_within dc_is_within pm_is_within an_is_within cd_is_within ct_is_within), sl_is_within⟩) (c_is_within : PySem.W.codeIn K cd_is_within "is_within" = true) (k_is_within : PySem.W.keepIn K (.ref f_is_within_a) = true)
    (a_are_counts_below : PySem.W.nsIn K mainGlobals "are_counts_below" = some (some (.ref f_are_counts_below_a))) (l_are_counts_below : K.lookup f_are_counts_below_a = some ⟨oc_are_counts_below, od_are_counts_below, .func (PySem.W.fnOf "are_counts_below" "are_counts_below" (defArgs s_are_counts_below) (defBody s_are_counts_below) (defScope s_are_counts_below) .none kV_are_counts_below dc_are_counts_below pm_are_counts_below an_are_counts_below cd_are_counts_below ct_are_counts_below), sl_are_counts_below⟩) (c_are_counts_below : PySem.W.codeIn K cd_are_counts_below "are_counts_below" = true) (k_are_counts_below : PySem.W.keepIn K (.ref f_are_counts_below_a) = true)
    (a_is_lot_of : PySem.W.nsIn K mainGlobals "is_lot_of" = some (some (.ref f_is_lot_of_a))) (l_is_lot_of : K.lookup f_is_lot_of_a = some ⟨oc_is_lot_of, od_is_lot_of, .func (PySem.W.fnOf "is_lot_of" "is_lot_of" (defArgs s_is_lot_of) (defBody s_is_lot_of) (defScope s_is_lot_of) .none kV_is_lot_of dc_is_lot_of pm_is_lot_of an_is_lot_of cd_is_lot_of ct_is_lot_of), sl_is_lot_of⟩) (c_is_lot_of : PySem.W.codeIn K cd_is_lot_of "is_lot_of" = true) (k_is_lot_of : PySem.W.keepIn K (.ref f_is_lot_of_a) = true)
    (a_want_lot : PySem.W.nsIn K mainGlobals "want_lot" = some (some (.ref f_want_lot_a))) (l_want_lot : K.lookup f_want_lot_a = some ⟨oc_want_lot, od_want_lot, .func (PySem.W.fnOf "want_lot" "want_lot" (defArgs s_want_lot) (defBody s_want_lot) (defScope s_want_lot) .none kV_want_lot dc_want_lot pm_want_lot an_want_lot cd_want_lot ct_want_lot), sl_want_lot⟩) (c_want_lot : PySem.W.codeIn K cd_want_lot "want_lot" = true) (k_want_lot : PySem.W.keepIn K (.ref f_want_lot_a) = true)
    (a_want_many : PySem.W.nsIn K mainGlobals "want_many" = some (some (.ref f_want_many_a))) (l_want_many : K.lookup f_want_many_a = some ⟨oc_want_many, od_want_many, .func (PySem.W.fnOf "want_many" "want_many" (defArgs s_want_many) (defBody s_want_many) (defScope s_want_many) .none kV_want_many dc_want_many pm_want_many an_want_many cd_want_many ct_want_many), sl_want_many⟩) (c_want_many : PySem.W.codeIn K cd_want_many "want_many" = true) (k_want_many : PySem.W.keepIn K (.ref f_want_many_a) = true)
    (a_want_other : PySem.W.nsIn K mainGlobals "want_other" = some (some (.ref f_want_other_a))) (l_want_other : K.lookup f_want_other_a = some ⟨oc_want_other, od_want_other, .func (PySem.W.fnOf "want_other" "want_other" (defArgs s_want_other) (defBody s_want_other) (defScope s_want_other) .none kV_want_other dc_want_other pm_want_other an_want_other cd_want_other ct_want_other), sl_want_other⟩) (c_want_other : PySem.W.codeIn K cd_want_other "want_other" = true) (k_want_other : PySem.W.keepIn K (.ref f_want_other_a) = true)
    (a_want_two : PySem.W.nsIn K mainGlobals "want_two" = some (some (.ref f_want_two_a))) (l_want_two : K.lookup f_want_two_a = some ⟨oc_want_two, od_want_two, .func (PySem.W.fnOf "want_two" "want_two" (defArgs s_want_two) (defBody s_want_two) (defScope s_want_two) .none kV_want_two dc_want_two pm_want_two an_want_two cd_want_two ct_want_two), sl_want_two⟩) (c_want_two : PySem.W.codeIn K cd_want_two "want_two" = true) (k_want_two : PySem.W.keepIn K (.ref f_want_two_a) = true)
    (a_common : PySem.W.nsIn K mainGlobals "common" = some (some (.ref f_common_a))) (l_common : K.lookup f_common_a = some ⟨oc_common, od_common, .func (PySem.W.fnOf "common" "common" (defArgs s_common) (defBody s_common) (defScope s_common) .none kV_common dc_common pm_common an_common cd_common ct_common), sl_common⟩) (c_common : PySem.W.codeIn K cd_common "common" = true) (k_common : PySem.W.keepIn K (.ref f_common_a) = true)
    (a_is_part : PySem.W.nsIn K mainGlobals "is_part" = some (some (.ref f_is_part_a))) (l_is_part : K.lookup f_is_part_a = some ⟨oc_is_part, od_is_part, .func (PySem.W.fnOf "is_part" "is_part" (defArgs s_is_part) (defBody s_is_part) (defScope s_is_part) .none kV_is_part dc_is_part pm_is_part an_is_part cd_is_part ct_is_part), sl_is_part⟩) (c_is_part : PySem.W.codeIn K cd_is_part "is_part" = true) (k_is_part : PySem.W.keepIn K (.ref f_is_part_a) = true)
    (a_is_within_lot : PySem.W.nsIn K mainGlobals "is_within_lot" = some (some (.ref f_is_within_lot_a))) (l_is_within_lot : K.lookup f_is_within_lot_a = some ⟨oc_is_within_lot, od_is_within_lot, .func (PySem.W.fnOf "is_within_lot" "is_within_lot" (defArgs s_is_within_lot) (defBody s_is_within_lot) (defScope s_is_within_lot) .none kV_is_within_lot dc_is_within_lot pm_is_within_lot an_is_within_lot cd_is_within_lot ct_is_within_lot), sl_is_within_lot⟩) (c_is_within_lot : PySem.W.codeIn K cd_is_within_lot "is_within_lot" = true) (k_is_within_lot : PySem.W.keepIn K (.ref f_is_within_lot_a) = true)
    (a_both : PySem.W.nsIn K mainGlobals "both" = some (some (.ref f_both_a))) (l_both : K.lookup f_both_a = some ⟨oc_both, od_both, .func (PySem.W.fnOf "both" "both" (defArgs s_both) (defBody s_both) (defScope s_both) .none kV_both dc_both pm_both an_both cd_both ct_both), sl_both⟩) (c_both : PySem.W.codeIn K cd_both "both" = true) (k_both : PySem.W.keepIn K (.ref f_both_a) = true)
    (a_joined : PySem.W.nsIn K mainGlobals "joined" = some (some (.ref f_joined_a))) (l_joined : K.lookup f_joined_a = some ⟨oc_joined, od_joined, .func (PySem.W.fnOf "joined" "joined" (defArgs s_joined) (defBody s_joined) (defScope s_joined) .none kV_joined dc_joined pm_joined an_joined cd_joined ct_joined), sl_joined⟩) (c_joined : PySem.W.codeIn K cd_joined "joined" = true) (k_joined : PySem.W.keepIn K (.ref f_joined_a) = true)
    (a_left_out : PySem.W.nsIn K mainGlobals "left_out" = some (some (.ref f_left_out_a))) (l_left_out : K.lookup f_left_out_a = some ⟨oc_left_out, od_left_out, .func (PySem.W.fnOf "left_out" "left_out" (defArgs s_left_out) (defBody s_left_out) (defScope s_left_out) .none kV_left_out dc_left_out pm_left_out an_left_out cd_left_out ct_left_out), sl_left_out⟩) (c_left_out : PySem.W.codeIn K cd_left_out "left_out" = true) (k_left_out : PySem.W.keepIn K (.ref f_left_out_a) = true)
    (a_less : PySem.W.nsIn K mainGlobals "less" = some (some (.ref f_less_a))) (l_less : K.lookup f_less_a = some ⟨oc_less, od_less, .func (PySem.W.fnOf "less" "less" (defArgs s_less) (defBody s_less) (defScope s_less) .none kV_less dc_less pm_less an_less cd_less ct_less), sl_less⟩) (c_less : PySem.W.codeIn K cd_less "less" = true) (k_less : PySem.W.keepIn K (.ref f_less_a) = true)
    (a_rest_of : PySem.W.nsIn K mainGlobals "rest_of" = some (some (.ref f_rest_of_a))) (l_rest_of : K.lookup f_rest_of_a = some ⟨oc_rest_of, od_rest_of, .func (PySem.W.fnOf "rest_of" "rest_of" (defArgs s_rest_of) (defBody s_rest_of) (defScope s_rest_of) .none kV_rest_of dc_rest_of pm_rest_of an_rest_of cd_rest_of ct_rest_of), sl_rest_of⟩) (c_rest_of : PySem.W.codeIn K cd_rest_of "rest_of" = true) (k_rest_of : PySem.W.keepIn K (.ref f_rest_of_a) = true)
    (a_rest : PySem.W.nsIn K mainGlobals "rest" = some (some (.ref f_rest_a))) (l_rest : K.lookup f_rest_a = some ⟨oc_rest, od_rest, .func (PySem.W.fnOf "rest" "rest" (defArgs s_rest) (defBody s_rest) (defScope s_rest) .none kV_rest dc_rest pm_rest an_rest cd_rest ct_rest), sl_rest⟩) (c_rest : PySem.W.codeIn K cd_rest "rest" = true) (k_rest : PySem.W.keepIn K (.ref f_rest_a) = true)
    (a__law_two_right : PySem.W.nsIn K mainGlobals "_law_two_right" = some (some (.ref f__law_two_right_a))) (l__law_two_right : K.lookup f__law_two_right_a = some ⟨oc__law_two_right, od__law_two_right, .func (PySem.W.fnOf "_law_two_right" "_law_two_right" (defArgs s__law_two_right) (defBody s__law_two_right) (defScope s__law_two_right) .none kV__law_two_right dc__law_two_right pm__law_two_right an__law_two_right cd__law_two_right ct__law_two_right), sl__law_two_right⟩) (c__law_two_right : PySem.W.codeIn K cd__law_two_right "_law_two_right" = true) (k__law_two_right : PySem.W.keepIn K (.ref f__law_two_right_a) = true)
    (a_is_lot : PySem.W.nsIn K mainGlobals "is_lot" = some (some (.ref f_is_lot_a))) (l_is_lot : K.lookup f_is_lot_a = some ⟨oc_is_lot, od_is_lot, .func (PySem.W.fnOf "is_lot" "is_lot" (defArgs s_is_lot) (defBody s_is_lot) (defScope s_is_lot) .none kV_is_lot dc_is_lot pm_is_lot an_is_lot cd_is_lot ct_is_lot), sl_is_lot⟩) (c_is_lot : PySem.W.codeIn K cd_is_lot "is_lot" = true) (k_is_lot : PySem.W.keepIn K (.ref f_is_lot_a) = true)
    (a_all_lots : PySem.W.nsIn K mainGlobals "all_lots" = some (some (.ref f_all_lots_a))) (l_all_lots : K.lookup f_all_lots_a = some ⟨oc_all_lots, od_all_lots, .func (PySem.W.fnOf "all_lots" "all_lots" (defArgs s_all_lots) (defBody s_all_lots) (defScope s_all_lots) .none kV_all_lots dc_all_lots pm_all_lots an_all_lots cd_all_lots ct_all_lots), sl_all_lots⟩) (c_all_lots : PySem.W.codeIn K cd_all_lots "all_lots" = true) (k_all_lots : PySem.W.keepIn K (.ref f_all_lots_a) = true)
    (a_lots : PySem.W.nsIn K mainGlobals "lots" = some (some (.ref f_lots_a))) (l_lots : K.lookup f_lots_a = some ⟨oc_lots, od_lots, .func (PySem.W.fnOf "lots" "lots" (defArgs s_lots) (defBody s_lots) (defScope s_lots) .none kV_lots dc_lots pm_lots an_lots cd_lots ct_lots), sl_lots⟩) (c_lots : PySem.W.codeIn K cd_lots "lots" = true) (k_lots : PySem.W.keepIn K (.ref f_lots_a) = true)
    (a__law_right : PySem.W.nsIn K mainGlobals "_law_right" = some (some (.ref f__law_right_a))) (l__law_right : K.lookup f__law_right_a = some ⟨oc__law_right, od__law_right, .func (PySem.W.fnOf "_law_right" "_law_right" (defArgs s__law_right) (defBody s__law_right) (defScope s__law_right) .none kV__law_right dc__law_right pm__law_right an__law_right cd__law_right ct__law_right), sl__law_right⟩) (c__law_right : PySem.W.codeIn K cd__law_right "_law_right" = true) (k__law_right : PySem.W.keepIn K (.ref f__law_right_a) = true)
    (a_law : PySem.W.nsIn K mainGlobals "law" = some (some (.ref f_law_a))) (l_law : K.lookup f_law_a = some ⟨oc_law, od_law, .func (PySem.W.fnOf "law" "law" (defArgs s_law) (defBody s_law) (defScope s_law) .none kV_law dc_law pm_law an_law cd_law ct_law), sl_law⟩) (c_law : PySem.W.codeIn K cd_law "law" = true) (k_law : PySem.W.keepIn K (.ref f_law_a) = true)
    (z_abs : PySem.W.nsIn K mainGlobals "abs" = some none)
    (z_all : PySem.W.nsIn K mainGlobals "all" = some none)
    (z_bool : PySem.W.nsIn K mainGlobals "bool" = some none)
    (z_divmod : PySem.W.nsIn K mainGlobals "divmod" = some none)
    (z_int : PySem.W.nsIn K mainGlobals "int" = some none)
    (z_isinstance : PySem.W.nsIn K mainGlobals "isinstance" = some none)
    (z_len : PySem.W.nsIn K mainGlobals "len" = some none)
    (z_list : PySem.W.nsIn K mainGlobals "list" = some none)
    (z_max : PySem.W.nsIn K mainGlobals "max" = some none)
    (z_min : PySem.W.nsIn K mainGlobals "min" = some none)
    (z_range : PySem.W.nsIn K mainGlobals "range" = some none)
    (z_repr : PySem.W.nsIn K mainGlobals "repr" = some none)
    (z_set : PySem.W.nsIn K mainGlobals "set" = some none)
    (z_sorted : PySem.W.nsIn K mainGlobals "sorted" = some none)
    (z_tuple : PySem.W.nsIn K mainGlobals "tuple" = some none)
    (z_zip : PySem.W.nsIn K mainGlobals "zip" = some none)
    {t_MOST_COLUMNS : Tok} (g_MOST_COLUMNS : PySem.W.nsIn K mainGlobals "MOST_COLUMNS" = some (some (.int 9 t_MOST_COLUMNS)))
    : Top K mg := { a__law_pot := f__law_pot_a, d__law_pot := _, F__law_pot := fun_mk (st := s__law_pot) l__law_pot c__law_pot k__law_pot, m__law_pot := PySem.W.mg_of X G a__law_pot, a__law_draw := f__law_draw_a, d__law_draw := _, F__law_draw := fun_mk (st := s__law_draw) l__law_draw c__law_draw k__law_draw, m__law_draw := PySem.W.mg_of X G a__law_draw, a__law_pick := f__law_pick_a, d__law_pick := _, F__law_pick := fun_mk (st := s__law_pick) l__law_pick c__law_pick k__law_pick, m__law_pick := PySem.W.mg_of X G a__law_pick, a__law_any := f__law_any_a, d__law_any := _, F__law_any := fun_mk (st := s__law_any) l__law_any c__law_any k__law_any, m__law_any := PySem.W.mg_of X G a__law_any, a__law_is_lot := f__law_is_lot_a, d__law_is_lot := _, F__law_is_lot := fun_mk (st := s__law_is_lot) l__law_is_lot c__law_is_lot k__law_is_lot, m__law_is_lot := PySem.W.mg_of X G a__law_is_lot, a__law_lots := f__law_lots_a, d__law_lots := _, F__law_lots := fun_mk (st := s__law_lots) l__law_lots c__law_lots k__law_lots, m__law_lots := PySem.W.mg_of X G a__law_lots, a_shared := f_shared_a, d_shared := _, F_shared := fun_mk (st := s_shared) l_shared c_shared k_shared, m_shared := PySem.W.mg_of X G a_shared, a_is_rising := f_is_rising_a, d_is_rising := _, F_is_rising := fun_mk (st := s_is_rising) l_is_rising c_is_rising k_is_rising, m_is_rising := PySem.W.mg_of X G a_is_rising, a_is_integer := f_is_integer_a, d_is_integer := _, F_is_integer := fun_mk (st := s_is_integer) l_is_integer c_is_integer k_is_integer, m_is_integer := PySem.W.mg_of X G a_is_integer, a_is_within := f_is_within_a, d_is_within := _, F_is_within := fun_mk (st := s_is_within) l_is_within c_is_within k_is_within, m_is_within := PySem.W.mg_of X G a_is_within, a_are_counts_below := f_are_counts_below_a, d_are_counts_below := _, F_are_counts_below := fun_mk (st := s_are_counts_below) l_are_counts_below c_are_counts_below k_are_counts_below, m_are_counts_below := PySem.W.mg_of X G a_are_counts_below, a_is_lot_of := f_is_lot_of_a, d_is_lot_of := _, F_is_lot_of := fun_mk (st := s_is_lot_of) l_is_lot_of c_is_lot_of k_is_lot_of, m_is_lot_of := PySem.W.mg_of X G a_is_lot_of, a_want_lot := f_want_lot_a, d_want_lot := _, F_want_lot := fun_mk (st := s_want_lot) l_want_lot c_want_lot k_want_lot, m_want_lot := PySem.W.mg_of X G a_want_lot, a_want_many := f_want_many_a, d_want_many := _, F_want_many := fun_mk (st := s_want_many) l_want_many c_want_many k_want_many, m_want_many := PySem.W.mg_of X G a_want_many, a_want_other := f_want_other_a, d_want_other := _, F_want_other := fun_mk (st := s_want_other) l_want_other c_want_other k_want_other, m_want_other := PySem.W.mg_of X G a_want_other, a_want_two := f_want_two_a, d_want_two := _, F_want_two := fun_mk (st := s_want_two) l_want_two c_want_two k_want_two, m_want_two := PySem.W.mg_of X G a_want_two, a_common := f_common_a, d_common := _, F_common := fun_mk (st := s_common) l_common c_common k_common, m_common := PySem.W.mg_of X G a_common, a_is_part := f_is_part_a, d_is_part := _, F_is_part := fun_mk (st := s_is_part) l_is_part c_is_part k_is_part, m_is_part := PySem.W.mg_of X G a_is_part, a_is_within_lot := f_is_within_lot_a, d_is_within_lot := _, F_is_within_lot := fun_mk (st := s_is_within_lot) l_is_within_lot c_is_within_lot k_is_within_lot, m_is_within_lot := PySem.W.mg_of X G a_is_within_lot, a_both := f_both_a, d_both := _, F_both := fun_mk (st := s_both) l_both c_both k_both, m_both := PySem.W.mg_of X G a_both, a_joined := f_joined_a, d_joined := _, F_joined := fun_mk (st := s_joined) l_joined c_joined k_joined, m_joined := PySem.W.mg_of X G a_joined, a_left_out := f_left_out_a, d_left_out := _, F_left_out := fun_mk (st := s_left_out) l_left_out c_left_out k_left_out, m_left_out := PySem.W.mg_of X G a_left_out, a_less := f_less_a, d_less := _, F_less := fun_mk (st := s_less) l_less c_less k_less, m_less := PySem.W.mg_of X G a_less, a_rest_of := f_rest_of_a, d_rest_of := _, F_rest_of := fun_mk (st := s_rest_of) l_rest_of c_rest_of k_rest_of, m_rest_of := PySem.W.mg_of X G a_rest_of, a_rest := f_rest_a, d_rest := _, F_rest := fun_mk (st := s_rest) l_rest c_rest k_rest, m_rest := PySem.W.mg_of X G a_rest, a__law_two_right := f__law_two_right_a, d__law_two_right := _, F__law_two_right := fun_mk (st := s__law_two_right) l__law_two_right c__law_two_right k__law_two_right, m__law_two_right := PySem.W.mg_of X G a__law_two_right, a_is_lot := f_is_lot_a, d_is_lot := _, F_is_lot := fun_mk (st := s_is_lot) l_is_lot c_is_lot k_is_lot, m_is_lot := PySem.W.mg_of X G a_is_lot, a_all_lots := f_all_lots_a, d_all_lots := _, F_all_lots := fun_mk (st := s_all_lots) l_all_lots c_all_lots k_all_lots, m_all_lots := PySem.W.mg_of X G a_all_lots, a_lots := f_lots_a, d_lots := _, F_lots := fun_mk (st := s_lots) l_lots c_lots k_lots, m_lots := PySem.W.mg_of X G a_lots, a__law_right := f__law_right_a, d__law_right := _, F__law_right := fun_mk (st := s__law_right) l__law_right c__law_right k__law_right, m__law_right := PySem.W.mg_of X G a__law_right, a_law := f_law_a, d_law := _, F_law := fun_mk (st := s_law) l_law c_law k_law, m_law := PySem.W.mg_of X G a_law, z_abs := PySem.W.mg_none_of X G z_abs, z_all := PySem.W.mg_none_of X G z_all, z_bool := PySem.W.mg_none_of X G z_bool, z_divmod := PySem.W.mg_none_of X G z_divmod, z_int := PySem.W.mg_none_of X G z_int, z_isinstance := PySem.W.mg_none_of X G z_isinstance, z_len := PySem.W.mg_none_of X G z_len, z_list := PySem.W.mg_none_of X G z_list, z_max := PySem.W.mg_none_of X G z_max, z_min := PySem.W.mg_none_of X G z_min, z_range := PySem.W.mg_none_of X G z_range, z_repr := PySem.W.mg_none_of X G z_repr, z_set := PySem.W.mg_none_of X G z_set, z_sorted := PySem.W.mg_none_of X G z_sorted, z_tuple := PySem.W.mg_none_of X G z_tuple, z_zip := PySem.W.mg_none_of X G z_zip, g_MOST_COLUMNS := ⟨t_MOST_COLUMNS, PySem.W.mg_of X G g_MOST_COLUMNS⟩ }
theorem law_ok {P : Program} {w : World} {K : PySem.W.Frag} {mg : Str → Option Value} {fa : Addr} (T : Top K mg) (hfa : mg "law" = some (.ref fa)) :
    ∃ fd : FuncData, (∀ (s : Shared) (v : Value), BindsTo s fd ⟨[v], []⟩ [("script", v)]) ∧ ∀ base : Heap, K.In base → base.Ns mainGlobals mg → FnG P w K mg base 10 fa fd ["script"] (spD K 1 f_law) := by
  have e := hfa.symm.trans T.m_law
  cases e
  exact ⟨T.d_law, fun s v => binds_one (simple_law T), fun base _ _ => ok_law T⟩
end K12
open PySem PySem.W PyProof.Rows
set_option maxHeartbeats 0 in
theorem PySem.Challenge.cw_settledlots_k12_whole_lots_joined_common_holds : PySem.Challenge.rw_settledlots_k12_whole_lots_joined_common.Holds := by
  w_on; o_law; k_head; (case hw => w_witness2)
  k_fill
  refine DL.walk_g (l := PySem.Challenge.rw_settledlots_k12_whole_lots_joined_common) (n := 63) (k := 10) (x := "script") (G := K12.f_law) rfl (by decide) rfl ⟨rfl, by decide, by decide⟩ (fun w h Y => PySem.W.kIn_of Y) ?F K12.law_true
  case F =>
    intro w mg fa h KX G hmg
    refine' K12.law_ok (K12.top_mk KX G ?a__law_pot ?l__law_pot ?c__law_pot ?k__law_pot ?a__law_draw ?l__law_draw ?c__law_draw ?k__law_draw ?a__law_pick ?l__law_pick ?c__law_pick ?k__law_pick ?a__law_any ?l__law_any ?c__law_any ?k__law_any ?a__law_is_lot ?l__law_is_lot ?c__law_is_lot ?k__law_is_lot ?a__law_lots ?l__law_lots ?c__law_lots ?k__law_lots ?a_shared ?l_shared ?c_shared ?k_shared ?a_is_rising ?l_is_rising ?c_is_rising ?k_is_rising ?a_is_integer ?l_is_integer ?c_is_integer ?k_is_integer ?a_is_within ?l_is_within ?c_is_within ?k_is_within ?a_are_counts_below ?l_are_counts_below ?c_are_counts_below ?k_are_counts_below ?a_is_lot_of ?l_is_lot_of ?c_is_lot_of ?k_is_lot_of ?a_want_lot ?l_want_lot ?c_want_lot ?k_want_lot ?a_want_many ?l_want_many ?c_want_many ?k_want_many ?a_want_other ?l_want_other ?c_want_other ?k_want_other ?a_want_two ?l_want_two ?c_want_two ?k_want_two ?a_common ?l_common ?c_common ?k_common ?a_is_part ?l_is_part ?c_is_part ?k_is_part ?a_is_within_lot ?l_is_within_lot ?c_is_within_lot ?k_is_within_lot ?a_both ?l_both ?c_both ?k_both ?a_joined ?l_joined ?c_joined ?k_joined ?a_left_out ?l_left_out ?c_left_out ?k_left_out ?a_less ?l_less ?c_less ?k_less ?a_rest_of ?l_rest_of ?c_rest_of ?k_rest_of ?a_rest ?l_rest ?c_rest ?k_rest ?a__law_two_right ?l__law_two_right ?c__law_two_right ?k__law_two_right ?a_is_lot ?l_is_lot ?c_is_lot ?k_is_lot ?a_all_lots ?l_all_lots ?c_all_lots ?k_all_lots ?a_lots ?l_lots ?c_lots ?k_lots ?a__law_right ?l__law_right ?c__law_right ?k__law_right ?a_law ?l_law ?c_law ?k_law ?z_abs ?z_all ?z_bool ?z_divmod ?z_int ?z_isinstance ?z_len ?z_list ?z_max ?z_min ?z_range ?z_repr ?z_set ?z_sorted ?z_tuple ?z_zip ?g_MOST_COLUMNS) hmg
    (case a__law_pot => k_is); (case l__law_pot => k_is); (case c__law_pot => k_is); (case k__law_pot => k_is); (case a__law_draw => k_is); (case l__law_draw => k_is); (case c__law_draw => k_is); (case k__law_draw => k_is); (case a__law_pick => k_is); (case l__law_pick => k_is); (case c__law_pick => k_is); (case k__law_pick => k_is); (case a__law_any => k_is); (case l__law_any => k_is); (case c__law_any => k_is); (case k__law_any => k_is); (case a__law_is_lot => k_is); (case l__law_is_lot => k_is); (case c__law_is_lot => k_is); (case k__law_is_lot => k_is); (case a__law_lots => k_is); (case l__law_lots => k_is); (case c__law_lots => k_is); (case k__law_lots => k_is); (case a_shared => k_is); (case l_shared => k_is); (case c_shared => k_is); (case k_shared => k_is); (case a_is_rising => k_is); (case l_is_rising => k_is); (case c_is_rising => k_is); (case k_is_rising => k_is); (case a_is_integer => k_is); (case l_is_integer => k_is); (case c_is_integer => k_is); (case k_is_integer => k_is); (case a_is_within => k_is); (case l_is_within => k_is); (case c_is_within => k_is); (case k_is_within => k_is); (case a_are_counts_below => k_is); (case l_are_counts_below => k_is); (case c_are_counts_below => k_is); (case k_are_counts_below => k_is); (case a_is_lot_of => k_is); (case l_is_lot_of => k_is); (case c_is_lot_of => k_is); (case k_is_lot_of => k_is); (case a_want_lot => k_is); (case l_want_lot => k_is); (case c_want_lot => k_is); (case k_want_lot => k_is); (case a_want_many => k_is); (case l_want_many => k_is); (case c_want_many => k_is); (case k_want_many => k_is); (case a_want_other => k_is); (case l_want_other => k_is); (case c_want_other => k_is); (case k_want_other => k_is); (case a_want_two => k_is); (case l_want_two => k_is); (case c_want_two => k_is); (case k_want_two => k_is); (case a_common => k_is); (case l_common => k_is); (case c_common => k_is); (case k_common => k_is); (case a_is_part => k_is); (case l_is_part => k_is); (case c_is_part => k_is); (case k_is_part => k_is); (case a_is_within_lot => k_is); (case l_is_within_lot => k_is); (case c_is_within_lot => k_is); (case k_is_within_lot => k_is); (case a_both => k_is); (case l_both => k_is); (case c_both => k_is); (case k_both => k_is); (case a_joined => k_is); (case l_joined => k_is); (case c_joined => k_is); (case k_joined => k_is); (case a_left_out => k_is); (case l_left_out => k_is); (case c_left_out => k_is); (case k_left_out => k_is); (case a_less => k_is); (case l_less => k_is); (case c_less => k_is); (case k_less => k_is); (case a_rest_of => k_is); (case l_rest_of => k_is); (case c_rest_of => k_is); (case k_rest_of => k_is); (case a_rest => k_is); (case l_rest => k_is); (case c_rest => k_is); (case k_rest => k_is); (case a__law_two_right => k_is); (case l__law_two_right => k_is); (case c__law_two_right => k_is); (case k__law_two_right => k_is); (case a_is_lot => k_is); (case l_is_lot => k_is); (case c_is_lot => k_is); (case k_is_lot => k_is); (case a_all_lots => k_is); (case l_all_lots => k_is); (case c_all_lots => k_is); (case k_all_lots => k_is); (case a_lots => k_is); (case l_lots => k_is); (case c_lots => k_is); (case k_lots => k_is); (case a__law_right => k_is); (case l__law_right => k_is); (case c__law_right => k_is); (case k__law_right => k_is); (case a_law => k_is); (case l_law => k_is); (case c_law => k_is); (case k_law => k_is); (case z_abs => k_is); (case z_all => k_is); (case z_bool => k_is); (case z_divmod => k_is); (case z_int => k_is); (case z_isinstance => k_is); (case z_len => k_is); (case z_list => k_is); (case z_max => k_is); (case z_min => k_is); (case z_range => k_is); (case z_repr => k_is); (case z_set => k_is); (case z_sorted => k_is); (case z_tuple => k_is); (case z_zip => k_is); (case g_MOST_COLUMNS => k_is)

