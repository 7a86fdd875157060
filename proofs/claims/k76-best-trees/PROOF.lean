import PyProof.Rows.All
import Wide.All
import OpenK.AllK
import Wide.FinOn
import HandS.Base
import HandS.Call
import HandS.List
import HandS.Comp
import HandS.Ends
import HandS.Dict
import HandS.Iter
import HandS.Text
import HandS.Exc
import HandS.TryOnly
import HandS.ExcOwn
import HandS.Words
import HandS.WordsList
import HandS.WordsDict
import HandS.WordsExc
import HandS.Defaults
import HandS.IsInst
import HandS.Wide
import HandS.Gcd
import HandS.ExcInit
import HandS.ExcField
import HandS.ExcIs
import HandS.CallSlots
import HandS.HeadHook1
import HandS.TupAny
import HandS.TupMul
import HandS.Style
import HandS.Deep
import HandS.Flow
import HandS.TupLen
import HandS.Conv
import HandS.RaiseMore
import KE.KExcIs
import HandS.HeadHook2
import HandS.Head0
import HandS.Head1
import HandS.Head2
import HandS.Head3
import HandS.HeadEnd
import HandS.HeadHook3
import KE.KMathG
import Flt.RightSqrt
import HandS.Zip
import HandS.Zip0
import HandS.MakeKwOnly
import KE.GoesNew
import KE.GoesMore
import HandS.SortInts
import HandS.SortRule
import HandS.DictComp
import HandS.Small
import KE.KDictSum
import KE.KDictCopyH
import HandS.TupSets
import KE.DataFind
import KE.KDictWalk
import KE.KDictItemsList
import HandS.ListItems
import HandS.Set
import HandS.SetFor
import KE.DataMinMax
import KE.DatumOrd
import PySem.Challenge.RW_oddscall_k76_best_trees
set_option Elab.async false
set_option linter.all false
set_option maxRecDepth 100000
set_option maxHeartbeats 4000000
/-! Z: a law's defs as plain Lean functions over plain data, tied to the hand layer once for each construct. -/
namespace Z
open PySem PySem.Spec PyProof.Rows L2

/-! ### data -/
inductive D where
  | non | bl (b : Bool) | int (i : Int) | str (x : Str) | tup (xs : List D) | ref (n : Nat) | fz (xs : List D) | xv
/-- objects that change -/
inductive IO where
  | lst (xs : List D)
  | dik (kvs : List (L2.Key × D))
  | dit (kvs : List (List Int × D))
  | ins (c : Str) (fs : List (Str × D))
abbrev IH := List IO
abbrev Ev := List (Option D)
/-- an exception: its class's name, its fields -/
structure Exc where
  cls : Str
  fs : List (Str × D)
inductive R (α : Type) where
  | ok (a : α) (h : IH)
  | exc (x : Exc) (h : IH)
  | stuck
/-- a statement's end -/
inductive RS where
  | nx (e : Ev) (h : IH)
  | rt (d : D) (h : IH)
  | bk (e : Ev) (h : IH)
  | ct (e : Ev) (h : IH)
  | exc (x : Exc) (e : Ev) (h : IH)
  | stuck
def R.bindG {α γ : Type} (r : R α) (fe : Exc → IH → γ) (st : γ) (f : α → IH → γ) : γ := match r with
  | .ok a h => f a h
  | .exc x h => fe x h
  | .stuck => st
@[simp] theorem R.bindG_ok {α γ : Type} (a : α) (h : IH) (fe : Exc → IH → γ) (st : γ) (f : α → IH → γ) : (R.ok a h).bindG fe st f = f a h := rfl
@[simp] theorem R.bindG_exc {α γ : Type} (x : Exc) (h : IH) (fe : Exc → IH → γ) (st : γ) (f : α → IH → γ) : (R.exc x h : R α).bindG fe st f = fe x h := rfl
@[simp] theorem R.bindG_stuck {α γ : Type} (fe : Exc → IH → γ) (st : γ) (f : α → IH → γ) : (R.stuck : R α).bindG fe st f = st := rfl
/-- one value, then another -/
abbrev R.bind {α β : Type} (r : R α) (f : α → IH → R β) : R β := r.bindG .exc .stuck f
/-- an expression's value, then a statement -/
abbrev R.thenS {α : Type} (r : R α) (e : Ev) (f : α → IH → RS) : RS := r.bindG (fun x h => .exc x e h) .stuck f
/-! ### how the heap bears the data -/
structure Rho where
  as : List Addr
/-- a list that stands still -/
def SqF (K : PySem.W.Frag) (H : Hp) (a : Addr) (xs : List V) : Prop :=
  (∃ o, H a = some (.frz o (.lst xs))) ∨
    ∃ (o : Obj) (its : Array Value) (n : Nat), K.lookup a = some o ∧ o.cls = .type "list" ∧ o.dict = none ∧ o.data = .seq its n ∧ its.size ≤ sizeLine ∧ Vals xs its.toList
theorem SqF.sq {K : PySem.W.Frag} {H : Hp} {a : Addr} {xs : List V} (h : SqF K H a xs) : SqL K H a xs := h.elim (fun z => .inl (.inr z)) .inr
mutual
inductive RepV (K : PySem.W.Frag) (ρ : Rho) (H : Hp) : D → V → Prop
  | non : RepV K ρ H .non .non
  | bl (b : Bool) : RepV K ρ H (.bl b) (.bl b)
  | int (i : Int) : RepV K ρ H (.int i) (.int i)
  | str (x : Str) : RepV K ρ H (.str x) (.str x)
  | tup {a : Addr} {vs : List V} {ds : List D} : SqT K H a vs → RepL K ρ H ds vs → RepV K ρ H (.tup ds) (.ref a)
  | ref {n : Nat} {a : Addr} : ρ.as[n]? = some a → RepV K ρ H (.ref n) (.ref a)
  | fz {a : Addr} {vs : List V} {ds : List D} : SqF K H a vs → RepL K ρ H ds vs → RepV K ρ H (.fz ds) (.ref a)
inductive RepL (K : PySem.W.Frag) (ρ : Rho) (H : Hp) : List D → List V → Prop
  | nil : RepL K ρ H [] []
  | cons {d : D} {ds : List D} {v : V} {vs : List V} : RepV K ρ H d v → RepL K ρ H ds vs → RepL K ρ H (d :: ds) (v :: vs)
end
/-- fields -/
inductive RepF (K : PySem.W.Frag) (ρ : Rho) (H : Hp) : List (Str × D) → List (Str × V) → Prop
  | nil : RepF K ρ H [] []
  | cons {f : Str} {d : D} {v : V} {ds : List (Str × D)} {vs : List (Str × V)} : RepV K ρ H d v → RepF K ρ H ds vs → RepF K ρ H ((f, d) :: ds) ((f, v) :: vs)
/-- from one state to a later one -/
structure Ext (ρ : Rho) (H : Hp) (ρ' : Rho) (H' : Hp) : Prop where
  pre : ρ.as <+: ρ'.as
  new : ∀ a ∈ ρ'.as, a ∈ ρ.as ∨ H a = none
  keep : ∀ a o, H a = some o → a ∉ ρ.as → H' a = some o
  tups : ∀ a xs, H a = some (.tup xs) → H' a = some (.tup xs)
  frzs : ∀ a o u, H a = some (.frz o u) → H' a = some (.frz o u)
  xds : ∀ a fs, H a = some (.xd fs) → H' a = some (.xd fs)
theorem Ext.refl {ρ : Rho} {H : Hp} : Ext ρ H ρ H := ⟨List.prefix_refl _, fun _ z => .inl z, fun _ _ e _ => e, fun _ _ e => e, fun _ _ _ e => e, fun _ _ e => e⟩
theorem Ext.trans {ρ ρ1 ρ2 : Rho} {H H1 H2 : Hp} (x : Ext ρ H ρ1 H1) (y : Ext ρ1 H1 ρ2 H2) : Ext ρ H ρ2 H2 where
  pre := x.pre.trans y.pre
  new := fun a h => by
    rcases y.new a h with z | z
    · exact x.new a z
    · by_cases ha : a ∈ ρ.as
      · exact .inl ha
      · cases e : H a with
        | none => exact .inr rfl
        | some o =>
          have := x.keep a o e ha
          rw [z] at this; cases this
  keep := fun a o e h => y.keep a o (x.keep a o e h) fun z => (x.new a z).elim h fun q => by rw [e] at q; cases q
  tups := fun a xs e => y.tups a xs (x.tups a xs e)
  frzs := fun a o u e => y.frzs a o u (x.frzs a o u e)
  xds := fun a u e => y.xds a u (x.xds a u e)
section
variable {K : PySem.W.Frag} {ρ ρ' : Rho} {H H' : Hp}
theorem Ext.get (x : Ext ρ H ρ' H') {n : Nat} {a : Addr} (h : ρ.as[n]? = some a) : ρ'.as[n]? = some a := by
  obtain ⟨t, e⟩ := x.pre
  rw [← e, List.getElem?_append_left (List.getElem?_eq_some_iff.mp h).1]
  exact h
theorem Ext.sqT (x : Ext ρ H ρ' H') {a : Addr} {vs : List V} (h : SqT K H a vs) : SqT K H' a vs := by
  rcases h with (h | ⟨o, h⟩) | h
  · exact .inl (.inl (x.tups _ _ h))
  · exact .inl (.inr ⟨o, x.frzs _ _ _ h⟩)
  · exact .inr h
theorem Ext.sqF (x : Ext ρ H ρ' H') {a : Addr} {vs : List V} (h : SqF K H a vs) : SqF K H' a vs := by
  rcases h with ⟨o, h⟩ | h
  · exact .inl ⟨o, x.frzs _ _ _ h⟩
  · exact .inr h
mutual
theorem RepV.ext (x : Ext ρ H ρ' H') : ∀ (d : D) (v : V), RepV K ρ H d v → RepV K ρ' H' d v
  | .non, _, h => by cases h; exact .non
  | .bl _, _, h => by cases h; exact .bl _
  | .int _, _, h => by cases h; exact .int _
  | .str _, _, h => by cases h; exact .str _
  | .tup ds, _, h => by
    cases h with
    | tup h1 h2 => exact .tup (x.sqT h1) (RepL.ext x ds _ h2)
  | .ref n, _, h => by
    cases h with
    | ref h1 => exact .ref (x.get h1)
  | .fz ds, _, h => by
    cases h with
    | fz h1 h2 => exact .fz (x.sqF h1) (RepL.ext x ds _ h2)
  | .xv, _, h => by cases h
theorem RepL.ext (x : Ext ρ H ρ' H') : ∀ (ds : List D) (vs : List V), RepL K ρ H ds vs → RepL K ρ' H' ds vs
  | [], _, h => by cases h; exact .nil
  | d :: ds, _, h => by
    cases h with
    | cons h1 h2 => exact .cons (RepV.ext x d _ h1) (RepL.ext x ds _ h2)
end
theorem RepF.ext (x : Ext ρ H ρ' H') : ∀ {ds : List (Str × D)} {vs : List (Str × V)}, RepF K ρ H ds vs → RepF K ρ' H' ds vs
  | _, _, .nil => .nil
  | _, _, .cons r t => .cons (r.ext x) (RepF.ext x t)
theorem RepF.get {f : Str} {e : D} : ∀ {ds : List (Str × D)} {vs : List (Str × V)}, RepF K ρ H ds vs → ds.lookup f = some e → ∃ v, vs.lookup f = some v ∧ RepV K ρ H e v
  | _, _, .nil, h => by cases h
  | _, _, .cons (f := g) (d := d) (v := v) (ds := ds) (vs := vs) r t, h => by
    rw [List.lookup_cons] at h
    rw [List.lookup_cons]
    cases c : (f == g) with
    | true => rw [c] at h; cases h; exact ⟨v, rfl, r⟩
    | false => rw [c] at h; exact RepF.get t h
theorem RepL.length : ∀ {ds : List D} {vs : List V}, RepL K ρ H ds vs → ds.length = vs.length
  | _, _, .nil => rfl
  | _, _, .cons _ t => congrArg Nat.succ (RepL.length t)
theorem RepL.get : ∀ {ds : List D} {vs : List V} {i : Nat} {d : D}, RepL K ρ H ds vs → ds[i]? = some d → ∃ v, vs[i]? = some v ∧ RepV K ρ H d v
  | _, _, _, _, .nil, e => by simp at e
  | _, _, 0, _, .cons r _, e => by simp at e; subst e; exact ⟨_, rfl, r⟩
  | _, _, i + 1, _, .cons _ t, e => by
    obtain ⟨v, h1, h2⟩ := RepL.get (i := i) t (by simpa using e)
    exact ⟨v, by simpa using h1, h2⟩
theorem RepL.append : ∀ {ds es : List D} {vs ws : List V}, RepL K ρ H ds vs → RepL K ρ H es ws → RepL K ρ H (ds ++ es) (vs ++ ws)
  | _, _, _, _, .nil, s => s
  | _, _, _, _, .cons r t, s => .cons r (RepL.append t s)
theorem RepL.set {d : D} {v : V} (r : RepV K ρ H d v) : ∀ {ds : List D} {vs : List V} (i : Nat), RepL K ρ H ds vs → RepL K ρ H (ds.set i d) (vs.set i v)
  | _, _, _, .nil => .nil
  | _, _, 0, .cons _ t => .cons r t
  | _, _, i + 1, .cons q t => .cons q (RepL.set r i t)
end
/-- what a dict holds, its keys ints and texts -/
inductive RepK (K : PySem.W.Frag) (ρ : Rho) (H : Hp) : List (L2.Key × D) → List (L2.Key × V) → Prop
  | nil : RepK K ρ H [] []
  | cons {k : L2.Key} {d : D} {v : V} {ds : List (L2.Key × D)} {vs : List (L2.Key × V)} : RepV K ρ H d v → RepK K ρ H ds vs → RepK K ρ H ((k, d) :: ds) ((k, v) :: vs)
/-- .. tuples of ints -/
inductive RepT (K : PySem.W.Frag) (ρ : Rho) (H : Hp) : List (List Int × D) → List (List Int × Addr × Value) → Prop
  | nil : RepT K ρ H [] []
  | cons {k : List Int} {a : Addr} {d : D} {v : V} {u : Value} {ds : List (List Int × D)} {xs : List (List Int × Addr × Value)} : SqT K H a (k.map V.int) → RepV K ρ H d v → RelV v u → RepT K ρ H ds xs → RepT K ρ H ((k, d) :: ds) ((k, a, u) :: xs)
theorem RepK.ext {K : PySem.W.Frag} {ρ ρ' : Rho} {H H' : Hp} (x : Ext ρ H ρ' H') : ∀ {ds : List (L2.Key × D)} {vs : List (L2.Key × V)}, RepK K ρ H ds vs → RepK K ρ' H' ds vs
  | _, _, .nil => .nil
  | _, _, .cons r t => .cons (r.ext x) (RepK.ext x t)
theorem RepT.ext {K : PySem.W.Frag} {ρ ρ' : Rho} {H H' : Hp} (x : Ext ρ H ρ' H') : ∀ {ds : List (List Int × D)} {vs : List (List Int × Addr × Value)}, RepT K ρ H ds vs → RepT K ρ' H' ds vs
  | _, _, .nil => .nil
  | _, _, .cons a r u t => .cons (x.sqT a) (r.ext x) u (RepT.ext x t)
/-- the heap's object at a is o -/
def isO (a : Addr) (o : Obj) : Heap → Prop := fun h => h.get? a = some o
def lft (x : List Int × Addr × Value) : List L2.Key × Addr × Value := (x.1.map .inl, x.2)
/-- o is a dict of these -/
def TabT (a : Addr) (o : Obj) (xs : List (List Int × Addr × Value)) : Prop :=
  (a == sysModules) = false ∧ xs.length ≤ sizeLine ∧ o.ExactDict ∧ (xs.map (·.1)).Nodup ∧
    ∃ es, o.data = .dict es xs.length ∧ ∀ (P : Program) (w : World), es.toList = (xs.map lft).map (entryOfKey (tupleKind (mixKind P w)))
/-- an object -/
def RepO (K : PySem.W.Frag) (ρ : Rho) (H : Hp) (a : Addr) : IO → Prop
  | .lst xs => ∃ vs, H a = some (.lst vs) ∧ RepL K ρ H xs vs
  | .dik kvs => ∃ m, H a = some (.dK m) ∧ RepK K ρ H kvs m
  | .dit kvs => ∃ o xs, H a = some (.ext (isO a o)) ∧ TabT a o xs ∧ RepT K ρ H kvs xs
  | .ins c fs => ∃ dx vs, H a = some (.ins (He.ga K c) dx vs) ∧ RepF K ρ H fs vs
structure RelH (K : PySem.W.Frag) (ρ : Rho) (ih : IH) (H : Hp) : Prop where
  len : ρ.as.length = ih.length
  nd : ρ.as.Nodup
  obj : ∀ (n : Nat) (a : Addr) (o : IO), ρ.as[n]? = some a → ih[(n : Nat)]? = some o → RepO K ρ H a o
/-- the exception that an except suite holds: where it stands, its class, its own dict, what it says -/
structure XP where
  a : Addr
  cls : Value
  od : Option Addr
  x : Exc
def RepX (K : PySem.W.Frag) (mg : Str → Option Value) (ρ : Rho) (H : Hp) (x : Exc) (cls : Value) (od : Option Addr) : Prop :=
  ∃ (d : Addr) (vs : List (Str × V)), cls = .ref (He.ga K x.cls) ∧ od = some d ∧ H d = some (.xd vs) ∧ RepF K ρ H x.fs vs
theorem RepX.ext {K : PySem.W.Frag} {mg : Str → Option Value} {ρ ρ' : Rho} {H H' : Hp} {x : Exc} {cls : Value} {od : Option Addr} (r : RepX K mg ρ H x cls od) (e : Ext ρ H ρ' H') : RepX K mg ρ' H' x cls od := by
  obtain ⟨d, vs, h2, h3, h4, h5⟩ := r
  exact ⟨d, vs, h2, h3, e.xds _ _ h4, h5.ext e⟩
structure Rel (K : PySem.W.Frag) (xp : Option XP) (ρ : Rho) (env : Ev) (ih : IH) (σ : L2.St) (H : Hp) : Prop where
  hp : RelH K ρ ih H
  len : env.length = σ.length
  var : ∀ (i : Nat) (d : D), env[i]? = some (some d) → d ≠ .xv → ∃ v, σ[i]? = some (some v) ∧ RepV K ρ H d v
  xvar : ∀ (i : Nat), env[i]? = some (some .xv) → ∃ p, xp = some p ∧ σ[i]? = some (some (.ref p.a))
  xok : ∀ p, xp = some p → ∃ mg, RepX K mg ρ H p.x p.cls p.od
section
variable {K : PySem.W.Frag} {xp : Option XP} {ρ ρ' : Rho} {H H' : Hp} {env : Ev} {ih ih' : IH} {σ : L2.St}
theorem RepV.nxv {d : D} {v : V} (r : RepV K ρ H d v) : d ≠ .xv := by rintro rfl; cases r
/-- behind a step that leaves the slots -/
theorem Rel.next (r : Rel K xp ρ env ih σ H) (x : Ext ρ H ρ' H') (h : RelH K ρ' ih' H') : Rel K xp ρ' env ih' σ H' :=
  ⟨h, r.len, fun i d e ne => let ⟨v, e1, e2⟩ := r.var i d e ne; ⟨v, e1, e2.ext x⟩, r.xvar, fun p e => let ⟨mg, q⟩ := r.xok p e; ⟨mg, q.ext x⟩⟩
theorem get_set {α : Type} {l : List α} {i j : Nat} {a b : α} (h : (l.set i a)[j]? = some b) : (i = j ∧ b = a ∧ i < l.length) ∨ (i ≠ j ∧ l[j]? = some b) := by
  by_cases hj : i = j
  · subst hj
    have hi : i < l.length := by
      have := (List.getElem?_eq_some_iff.mp h).1
      simpa using this
    rw [List.getElem?_set_self hi] at h
    cases h
    exact .inl ⟨rfl, rfl, hi⟩
  · rw [List.getElem?_set_ne hj] at h
    exact .inr ⟨hj, h⟩
theorem Rel.set (r : Rel K xp ρ env ih σ H) {d : D} {v : V} (i : Nat) (hv : RepV K ρ H d v) : Rel K xp ρ (env.set i (some d)) ih (σ.set i (some v)) H := by
  refine ⟨r.hp, by simp [r.len], fun j e h ne => ?_, fun j h => ?_, r.xok⟩
  · rcases get_set h with ⟨rfl, e1, hi⟩ | ⟨hj, h⟩
    · cases e1
      exact ⟨v, List.getElem?_set_self (by rw [← r.len]; exact hi), hv⟩
    · rw [List.getElem?_set_ne hj]
      exact r.var j e h ne
  · rcases get_set h with ⟨rfl, e1, hi⟩ | ⟨hj, h⟩
    · cases e1
      exact absurd rfl hv.nxv
    · rw [List.getElem?_set_ne hj]
      exact r.xvar j h
theorem Rel.unset (r : Rel K xp ρ env ih σ H) (i : Nat) {v : Option V} : Rel K xp ρ (env.set i none) ih (σ.set i v) H := by
  refine ⟨r.hp, by simp [r.len], fun j e h ne => ?_, fun j h => ?_, r.xok⟩
  · rcases get_set h with ⟨rfl, e1, hi⟩ | ⟨hj, h⟩
    · cases e1
    · rw [List.getElem?_set_ne hj]
      exact r.var j e h ne
  · rcases get_set h with ⟨rfl, e1, hi⟩ | ⟨hj, h⟩
    · cases e1
    · rw [List.getElem?_set_ne hj]
      exact r.xvar j h
end

/-! ### what is wanted of an end -/
section
variable (K : PySem.W.Frag) (mg : Str → Option Value) (W : WX)
section
variable (ρ : Rho) (σ : L2.St) (H : Hp)
def PostE (Q : VK) : R D → Prop
  | .ok d ih => ∀ ρ' v H', Ext ρ H ρ' H' → RelH K ρ' ih H' → RepV K ρ' H' d v → Q v H'
  | .exc x ih => ∀ ρ' cls od H', Ext ρ H ρ' H' → RelH K ρ' ih H' → RepX K mg ρ' H' x cls od → W cls od σ H'
  | .stuck => False
def PostT (Q : Bool → Hp → Prop) : R Bool → Prop
  | .ok b ih => ∀ ρ' H', Ext ρ H ρ' H' → RelH K ρ' ih H' → Q b H'
  | .exc x ih => ∀ ρ' cls od H', Ext ρ H ρ' H' → RelH K ρ' ih H' → RepX K mg ρ' H' x cls od → W cls od σ H'
  | .stuck => False
def PostA (Q : List V → Hp → Prop) : R (List D) → Prop
  | .ok ds ih => ∀ ρ' vs H', Ext ρ H ρ' H' → RelH K ρ' ih H' → RepL K ρ' H' ds vs → Q vs H'
  | .exc x ih => ∀ ρ' cls od H', Ext ρ H ρ' H' → RelH K ρ' ih H' → RepX K mg ρ' H' x cls od → W cls od σ H'
  | .stuck => False
end
def PostS (xp : Option XP) (ρ : Rho) (H : Hp) (N : Ends) : RS → Prop
  | .nx e ih => ∀ ρ' σ' H', Ext ρ H ρ' H' → Rel K xp ρ' e ih σ' H' → N.nx σ' H'
  | .bk e ih => ∀ ρ' σ' H', Ext ρ H ρ' H' → Rel K xp ρ' e ih σ' H' → N.bk σ' H'
  | .ct e ih => ∀ ρ' σ' H', Ext ρ H ρ' H' → Rel K xp ρ' e ih σ' H' → N.ct σ' H'
  | .rt d ih => ∀ ρ' v H', Ext ρ H ρ' H' → RelH K ρ' ih H' → RepV K ρ' H' d v → N.rt v H'
  | .exc x e ih => ∀ ρ' cls od σ' H', Ext ρ H ρ' H' → Rel K xp ρ' e ih σ' H' → RepX K mg ρ' H' x cls od → W cls od σ' H'
  | .stuck => False
end
section
variable {K : PySem.W.Frag} {mg : Str → Option Value} {W : WX} {xp : Option XP} {ρ ρ' : Rho} {σ : L2.St} {H H' : Hp}
theorem PostE.ext {Q : VK} : ∀ {r : R D}, PostE K mg W ρ σ H Q r → Ext ρ H ρ' H' → PostE K mg W ρ' σ H' Q r
  | .ok _ _, h, x => fun _ v _ y => h _ v _ (x.trans y)
  | .exc _ _, h, x => fun _ _ _ _ y => h _ _ _ _ (x.trans y)
  | .stuck, h, _ => h
theorem PostT.ext {Q : Bool → Hp → Prop} : ∀ {r : R Bool}, PostT K mg W ρ σ H Q r → Ext ρ H ρ' H' → PostT K mg W ρ' σ H' Q r
  | .ok _ _, h, x => fun _ _ y => h _ _ (x.trans y)
  | .exc _ _, h, x => fun _ _ _ _ y => h _ _ _ _ (x.trans y)
  | .stuck, h, _ => h
theorem PostA.ext {Q : List V → Hp → Prop} : ∀ {r : R (List D)}, PostA K mg W ρ σ H Q r → Ext ρ H ρ' H' → PostA K mg W ρ' σ H' Q r
  | .ok _ _, h, x => fun _ v _ y => h _ v _ (x.trans y)
  | .exc _ _, h, x => fun _ _ _ _ y => h _ _ _ _ (x.trans y)
  | .stuck, h, _ => h
theorem PostS.ext {N : Ends} : ∀ {r : RS}, PostS K mg W xp ρ H N r → Ext ρ H ρ' H' → PostS K mg W xp ρ' H' N r
  | .nx _ _, h, x => fun _ _ _ y => h _ _ _ (x.trans y)
  | .bk _ _, h, x => fun _ _ _ y => h _ _ _ (x.trans y)
  | .ct _ _, h, x => fun _ _ _ y => h _ _ _ (x.trans y)
  | .rt _ _, h, x => fun _ v _ y => h _ v _ (x.trans y)
  | .exc _ _ _, h, x => fun _ _ _ _ _ y => h _ _ _ _ _ (x.trans y)
  | .stuck, h, _ => h
end

/-! ### the judgements -/
abbrev ME := Ev → IH → R D
abbrev MT := Ev → IH → R Bool
abbrev MA := Ev → IH → R (List D)
abbrev MS := Ev → IH → RS
def SE (xp : Option XP) (X : Cx) (e : Expr) (m : ME) : Prop := ∀ W : WX, Takes X W → ∃ t, PE X e t ∧
  ∀ ρ env ih σ H Q, Rel X.K xp ρ env ih σ H → PostE X.K X.mg W ρ σ H Q (m env ih) → t σ H Q
def ST (xp : Option XP) (X : Cx) (e : Expr) (m : MT) : Prop := ∀ W : WX, Takes X W → ∃ t, PT X e t ∧
  ∀ ρ env ih σ H Q, Rel X.K xp ρ env ih σ H → PostT X.K X.mg W ρ σ H Q (m env ih) → t σ H Q
/-- a test whatever its whole is -/
def SW (xp : Option XP) (X : Cx) (e : Expr) (m : MT) : Prop := ∀ W : WX, Takes X W → ∃ t, PW X e t ∧
  ∀ ρ env ih σ H Q, Rel X.K xp ρ env ih σ H → PostT X.K X.mg W ρ σ H Q (m env ih) → t σ H Q
def SA (xp : Option XP) (X : Cx) (es : List Expr) (m : MA) : Prop := ∀ W : WX, Takes X W → ∃ t, PA X es t ∧
  ∀ ρ env ih σ H Q, Rel X.K xp ρ env ih σ H → PostA X.K X.mg W ρ σ H Q (m env ih) → t σ H Q
def SS (xp : Option XP) (X : Cx) (st : Stmt) (m : MS) : Prop := ∀ W : WX, Takes X W → ∃ t, PS X st t ∧
  ∀ ρ env ih σ H N, Rel X.K xp ρ env ih σ H → PostS X.K X.mg W xp ρ H N (m env ih) → t N σ H
def SSs (xp : Option XP) (X : Cx) (st : List Stmt) (m : MS) : Prop := ∀ W : WX, Takes X W → ∃ t, PSs X st t ∧
  ∀ ρ env ih σ H N, Rel X.K xp ρ env ih σ H → PostS X.K X.mg W xp ρ H N (m env ih) → t N σ H
end Z
/-! Z2: the heap's moves; operators, names, constants, calls. -/
namespace Z
open PySem PySem.Spec PyProof.Rows L2

/-! ### the heap's moves -/
section
variable {K : PySem.W.Frag} {ρ : Rho} {H : Hp} {ih : IH}
/-- an object that is no list and no tuple of ours is laid -/
theorem Ext.fresh {p : Addr} {o : HO} (hp : H p = none) : Ext ρ H ρ (upd H p o) :=
  ⟨List.prefix_refl _, fun _ z => .inl z, fun a u e _ => by rw [upd_ne (ne_of_none e hp)]; exact e, fun a u e => by rw [upd_ne (ne_of_none e hp)]; exact e,
    fun a u v e => by rw [upd_ne (ne_of_none e hp)]; exact e, fun a u e => by rw [upd_ne (ne_of_none e hp)]; exact e⟩
theorem RepO.ext {ρ' : Rho} {H' : Hp} (x : Ext ρ H ρ' H') {a : Addr} (ha : H' a = H a) : ∀ {o : IO}, RepO K ρ H a o → RepO K ρ' H' a o
  | .lst xs, ⟨vs, e, r⟩ => ⟨vs, ha.trans e, r.ext x⟩
  | .dik _, ⟨m, e, r⟩ => ⟨m, ha.trans e, r.ext x⟩
  | .dit _, ⟨o, xs, e, t, r⟩ => ⟨o, xs, ha.trans e, t, r.ext x⟩
  | .ins _ _, ⟨dx, vs, e, r⟩ => ⟨dx, vs, ha.trans e, r.ext x⟩
theorem RelH.ne_none (r : RelH K ρ ih H) {a : Addr} (ha : a ∈ ρ.as) : ∃ o, H a = some o := by
  obtain ⟨n, hn, e⟩ := List.getElem_of_mem ha
  have h1 : ρ.as[n]? = some a := by rw [List.getElem?_eq_getElem hn, e]
  have hi : n < ih.length := by rw [← r.len]; exact hn
  have h2 := r.obj n a ih[n] h1 (List.getElem?_eq_getElem hi)
  cases q : ih[n] with
  | lst xs => rw [q] at h2; obtain ⟨vs, e, _⟩ := h2; exact ⟨_, e⟩
  | dik kvs => rw [q] at h2; obtain ⟨_, e, _⟩ := h2; exact ⟨_, e⟩
  | dit kvs => rw [q] at h2; obtain ⟨_, _, e, _⟩ := h2; exact ⟨_, e⟩
  | ins c fs => rw [q] at h2; obtain ⟨_, _, e, _⟩ := h2; exact ⟨_, e⟩
/-- what stands aside may be written -/
theorem RelH.aside (r : RelH K ρ ih H) {p : Addr} {o : HO} (hp : H p = none) : RelH K ρ ih (upd H p o) := by
  refine ⟨r.len, r.nd, fun n a u e1 e2 => ?_⟩
  have h := r.obj n a u e1 e2
  have ne : a ≠ p := by
    obtain ⟨z, q⟩ := r.ne_none (List.mem_of_getElem? e1)
    exact ne_of_none q hp
  exact h.ext (Ext.fresh hp) (upd_ne ne)
theorem alloc (r : RelH K ρ ih H) {p : Addr} {vs : List V} {ds : List D} (hp : H p = none) (h : RepL K ρ H ds vs) :
    ∃ ρ', Ext ρ H ρ' (upd H p (.lst vs)) ∧ RelH K ρ' (ih ++ [.lst ds]) (upd H p (.lst vs)) ∧ RepV K ρ' (upd H p (.lst vs)) (.ref ih.length) (.ref p) := by
  have x : Ext ρ H ⟨ρ.as ++ [p]⟩ (upd H p (.lst vs)) :=
    ⟨List.prefix_append _ _, fun a z => by
      rcases List.mem_append.mp z with z | z
      · exact .inl z
      · rw [List.mem_singleton.mp z]; exact .inr hp, fun a u e _ => by rw [upd_ne (ne_of_none e hp)]; exact e, fun a u e => by rw [upd_ne (ne_of_none e hp)]; exact e,
    fun a u v e => by rw [upd_ne (ne_of_none e hp)]; exact e, fun a u e => by rw [upd_ne (ne_of_none e hp)]; exact e⟩
  have np : p ∉ ρ.as := fun z => by
    obtain ⟨o, e⟩ := r.ne_none z
    rw [hp] at e; cases e
  refine ⟨⟨ρ.as ++ [p]⟩, x, ⟨by simp [r.len], List.nodup_append.mpr ⟨r.nd, by simp, fun a ha b hb => by
    rw [List.mem_singleton.mp hb]; rintro rfl; exact np ha⟩, fun n a u e1 e2 => ?_⟩, .ref ?_⟩
  · by_cases hn : n < ih.length
    · have hn' : n < ρ.as.length := by rw [r.len]; exact hn
      rw [List.getElem?_append_left hn'] at e1
      rw [List.getElem?_append_left hn] at e2
      have ne : a ≠ p := by rintro rfl; exact np (List.mem_of_getElem? e1)
      exact (r.obj n a u e1 e2).ext x (upd_ne ne)
    · have hl : n < (ih ++ [IO.lst ds]).length := (List.getElem?_eq_some_iff.mp e2).1
      have en : n = ih.length := by simp at hl; omega
      subst en
      have q1 : (ρ.as ++ [p])[ih.length]? = some p := by rw [← r.len]; simp
      have e1' : (ρ.as ++ [p])[ih.length]? = some a := e1
      rw [q1] at e1'; cases e1'
      have q2 : (ih ++ [IO.lst ds])[ih.length]? = some (.lst ds) := by simp
      rw [q2] at e2; cases e2
      exact ⟨vs, upd_same, h.ext x⟩
  · show (ρ.as ++ [p])[ih.length]? = some p
    rw [← r.len]; simp
theorem rewrite (r : RelH K ρ ih H) {n : Nat} {a : Addr} {vs us : List V} {ds : List D} (ha : ρ.as[n]? = some a) (hl : H a = some (.lst us)) (h : RepL K ρ H ds vs) :
    Ext ρ H ρ (upd H a (.lst vs)) ∧ RelH K ρ (ih.set n (.lst ds)) (upd H a (.lst vs)) := by
  have hm : a ∈ ρ.as := List.mem_of_getElem? ha
  have x : Ext ρ H ρ (upd H a (.lst vs)) :=
    ⟨List.prefix_refl _, fun _ z => .inl z, fun b u e hb => by rw [upd_ne (by rintro rfl; exact hb hm)]; exact e, fun b u e => by rw [upd_ne (by rintro rfl; rw [hl] at e; cases e)]; exact e,
      fun b u v e => by rw [upd_ne (by rintro rfl; rw [hl] at e; cases e)]; exact e, fun b u e => by rw [upd_ne (by rintro rfl; rw [hl] at e; cases e)]; exact e⟩
  refine ⟨x, by rw [r.len, List.length_set], r.nd, fun m b u e1 e2 => ?_⟩
  by_cases hmn : n = m
  · subst hmn
    rw [ha] at e1; cases e1
    have hn : n < ih.length := by rw [← r.len]; exact (List.getElem?_eq_some_iff.mp ha).1
    rw [List.getElem?_set_self hn] at e2
    cases e2
    exact ⟨vs, upd_same, h.ext x⟩
  · rw [List.getElem?_set_ne hmn] at e2
    have ne : b ≠ a := by
      rintro rfl
      obtain ⟨h1, q1⟩ := List.getElem?_eq_some_iff.mp e1
      obtain ⟨h2, q2⟩ := List.getElem?_eq_some_iff.mp ha
      exact hmn ((List.getElem_inj r.nd).mp (q2.trans q1.symm))
    exact (r.obj m b u e1 e2).ext x (upd_ne ne)
/-- a list of ours -/
theorem RelH.lst (r : RelH K ρ ih H) {n : Nat} {a : Addr} {ds : List D} (ha : ρ.as[n]? = some a) (hn : ih[n]? = some (.lst ds)) : ∃ vs, H a = some (.lst vs) ∧ RepL K ρ H ds vs := r.obj n a _ ha hn
end

/-! ### readings joined -/
/-! ### names, constants -/
section
variable {xp : Option XP} {X : Cx}
def varM (i : Nat) : ME := fun env h => match env[i]? with
  | some (some .xv) => .stuck
  | some (some d) => .ok d h
  | _ => .stuck
theorem s_var {i : Nat} {x : Str} {pos : Pos} (h : PE X (.Name x pos) (tVar i)) : SE xp X (.Name x pos) (varM i) := fun W tk => ⟨_, h, fun ρ env ih σ H Q r post => by
  unfold varM at post
  split at post
  · exact post.elim
  · rename_i d ne e
    obtain ⟨v, e1, e2⟩ := r.var i d e ne
    exact ⟨v, e1, post ρ v H .refl r.hp e2⟩
  · exact post.elim⟩
def constM (d : D) : ME := fun _ h => .ok d h
theorem s_const {e : Expr} {d : D} {v : V} (h : PE X e (tC v)) (r : ∀ ρ H, RepV X.K ρ H d v) : SE xp X e (constM d) := fun W tk => ⟨_, h, fun ρ env ih σ H Q rl post => post ρ v H .refl rl.hp (r ρ H)⟩
theorem s_int {i : Int} {j : Nat} {pos : Pos} : SE xp X (.Constant (.int i) j pos) (constM (.int i)) := s_const pe_int fun _ _ => .int _
theorem s_bl {b : Bool} {j : Nat} {pos : Pos} : SE xp X (.Constant (.bool b) j pos) (constM (.bl b)) := s_const pe_bl fun _ _ => .bl _
theorem s_non {j : Nat} {pos : Pos} : SE xp X (.Constant .none j pos) (constM .non) := s_const pe_non fun _ _ => .non
theorem s_str {x : Str} {j : Nat} {pos : Pos} : SE xp X (.Constant (.str x) j pos) (constM (.str x)) := s_const pe_str fun _ _ => .str _

/-! ### operators -/
abbrev MO := D → D → IH → R D
/-- an operation keeps: f with the meaning m -/
def SO (X : Cx) (f : Value → Value → Sem Value) (m : MO) : Prop := ∃ r : R2, OpR X f r ∧
  ∀ W ρ ih H σ Q d e x y, RelH X.K ρ ih H → RepV X.K ρ H d x → RepV X.K ρ H e y → PostE X.K X.mg W ρ σ H Q (m d e ih) → r x y H Q
def binM (o : MO) (ma mb : ME) : ME := fun env h => (ma env h).bind fun x h1 => (mb env h1).bind fun y h2 => o x y h2
variable {a b : Expr} {ma mb : ME} {pos : Pos}
end
end Z
/-! Z3: operators by data. -/
namespace Z
open PySem PySem.Spec PyProof.Rows L2
section
variable {xp : Option XP} {X : Cx}
/-! ### equality of data -/
def pdL (f : D → Option PyData) : List D → Option (List PyData)
  | [] => some []
  | d :: ds => match f d, pdL f ds with
    | some p, some ps => some (p :: ps)
    | _, _ => none
def pd : Nat → IH → D → Option PyData
  | 0, _, _ => none
  | k + 1, h, d => match d with
    | .non => some .none
    | .bl b => some (.bool b)
    | .int i => some (.int i)
    | .str x => some (.str x)
    | .tup ds => (pdL (pd k h) ds).map .tuple
    | .fz ds => (pdL (pd k h) ds).map .list
    | .ref n => match h[n]? with
      | some (.lst ds) => (pdL (pd k h) ds).map .list
      | _ => none
    | .xv => none
theorem pdL_all {K : PySem.W.Frag} {ρ : Rho} {H : Hp} {f : D → Option PyData} (hf : ∀ d p v, f d = some p → RepV K ρ H d v → Dp K H v p) :
    ∀ {ds : List D} {ps : List PyData} {vs : List V}, pdL f ds = some ps → RepL K ρ H ds vs → DpAll K H vs ps
  | [], _, _, e, .nil => by cases e; exact .nil
  | d :: ds, _, _, e, .cons r t => by
    unfold pdL at e
    split at e
    · rename_i p ps e1 e2
      cases e
      exact .cons (hf _ _ _ e1 r) (pdL_all hf e2 t)
    · cases e
theorem pd_dp {K : PySem.W.Frag} {ρ : Rho} {H : Hp} {ih : IH} (rl : RelH K ρ ih H) : ∀ {k : Nat} {d : D} {p : PyData} {v : V}, pd k ih d = some p → RepV K ρ H d v → Dp K H v p
  | 0, _, _, _, e, _ => by cases e
  | k + 1, d, p, v, e, r => by
    have ihd : ∀ d p v, pd k ih d = some p → RepV K ρ H d v → Dp K H v p := fun d p v => pd_dp rl
    cases r with
    | non => cases e; exact .non
    | bl b => cases e; exact .bl b
    | int i => cases e; exact .int i
    | str x => cases e; exact .str x
    | @tup a vs ds h1 h2 =>
      obtain ⟨ps, e1, e2⟩ := Option.map_eq_some_iff.mp (show (pdL (pd k ih) ds).map PyData.tuple = some p from e)
      cases e2
      exact .tup h1 (pdL_all ihd e1 h2)
    | @fz a vs ds h1 h2 =>
      obtain ⟨ps, e1, e2⟩ := Option.map_eq_some_iff.mp (show (pdL (pd k ih) ds).map PyData.list = some p from e)
      cases e2
      exact .lst h1.sq (pdL_all ihd e1 h2)
    | @ref n a h1 =>
      have e' : (match ih[n]? with
        | some (.lst ds) => (pdL (pd k ih) ds).map PyData.list
        | _ => none) = some p := e
      split at e'
      · rename_i ds hn
        obtain ⟨ps, e1, e2⟩ := Option.map_eq_some_iff.mp e'
        cases e2
        obtain ⟨vs, hv, hr⟩ := rl.lst h1 hn
        exact .lst (SqL.of hv) (pdL_all ihd e1 hr)
      · cases e'
/-- depth of data that is compared -/
def pdK : Nat := 16
def eqB (h : IH) (d e : D) : Option Bool := match pd pdK h d, pd pdK h e with
  | some p, some q => if SeqAt.shaped p = true ∧ SeqAt.shaped q = true then some (PyData.eqv p q) else none
  | _, _ => none
def eqM : MO := fun d e h => match eqB h d e with
  | some b => .ok (.bl b) h
  | none => .stuck
def neM : MO := fun d e h => match eqB h d e with
  | some b => .ok (.bl (!b)) h
  | none => .stuck
theorem eqB_of {K : PySem.W.Frag} {ρ : Rho} {H : Hp} {ih : IH} (rl : RelH K ρ ih H) {d e : D} {x y : V} {b : Bool} (q : eqB ih d e = some b) (hd : RepV K ρ H d x) (he : RepV K ρ H e y) :
    ∃ p q, Dp K H x p ∧ Dp K H y q ∧ SeqAt.shaped p = true ∧ SeqAt.shaped q = true ∧ PyData.eqv p q = b := by
  unfold eqB at q
  split at q
  · rename_i p q' e1 e2
    split at q
    · rename_i c
      cases q
      exact ⟨p, q', pd_dp rl e1 hd, pd_dp rl e2 he, c.1, c.2, rfl⟩
    · cases q
  · cases q
theorem o_eq (hu : X.A.units + 64 < cLine) : SO X (compareOp .Eq) eqM := ⟨_, op_eqD hu, fun W ρ ih H σ Q d e x y rl hd he post => by
  unfold eqM at post
  split at post
  · rename_i b q
    obtain ⟨p, q', h1, h2, h3, h4, h5⟩ := eqB_of rl q hd he
    subst h5
    exact ⟨p, q', h1, h2, h3, h4, post ρ _ H .refl rl (.bl _)⟩
  · exact post.elim⟩
theorem o_ne (hu : X.A.units + 64 < cLine) : SO X (compareOp .NotEq) neM := ⟨_, op_neD hu, fun W ρ ih H σ Q d e x y rl hd he post => by
  unfold neM at post
  split at post
  · rename_i b q
    obtain ⟨p, q', h1, h2, h3, h4, h5⟩ := eqB_of rl q hd he
    subst h5
    exact ⟨p, q', h1, h2, h3, h4, post ρ _ H .refl rl (.bl _)⟩
  · exact post.elim⟩

/-! ### ints -/
def small (i j : Int) : Prop := i.natAbs.log2 + j.natAbs.log2 < 1000000
instance (i j : Int) : Decidable (small i j) := by unfold small; infer_instance
/-- an operation on two ints, of an int -/
def intM (C : Int → Int → Prop) [∀ i j, Decidable (C i j)] (g : Int → Int → Int) : MO := fun d e h => match d, e with
  | .int i, .int j => if C i j then .ok (.int (g i j)) h else .stuck
  | _, _ => .stuck
def cmpM (g : Int → Int → Bool) : MO := fun d e h => match d, e with
  | .int i, .int j => .ok (.bl (g i j)) h
  | _, _ => .stuck
theorem o_int {f : Value → Value → Sem Value} {C : Int → Int → Prop} [∀ i j, Decidable (C i j)] {g : Int → Int → Int} (o : OpR X f (rI C fun i j => .int (g i j))) : SO X f (intM C g) := ⟨_, o, fun W ρ ih H σ Q d e x y rl hd he post => by
  unfold intM at post
  split at post
  · cases hd
    cases he
    split at post
    · rename_i c
      exact ⟨_, _, rfl, rfl, c, post ρ _ H .refl rl (.int _)⟩
    · exact post.elim
  · exact post.elim⟩
theorem o_cmp {f : Value → Value → Sem Value} {g : Int → Int → Bool} (o : OpR X f (rI0 fun i j => .bl (g i j))) : SO X f (cmpM g) := ⟨_, o, fun W ρ ih H σ Q d e x y rl hd he post => by
  unfold cmpM at post
  split at post
  · cases hd
    cases he
    exact ⟨_, _, rfl, rfl, post ρ _ H .refl rl (.bl _)⟩
  · exact post.elim⟩
def ltM : MO := cmpM fun i j => decide (i < j)
def leM : MO := cmpM fun i j => decide (i ≤ j)
def gtM : MO := cmpM fun i j => decide (j < i)
def geM : MO := cmpM fun i j => decide (j ≤ i)
theorem o_lt : SO X (compareOp .Lt) ltM := o_cmp op_lt
theorem o_le : SO X (compareOp .LtE) leM := o_cmp op_le
theorem o_gt : SO X (compareOp .Gt) gtM := o_cmp op_gt
theorem op_sub' : OpR X (binaryOp .Sub) (rI (fun _ _ => True) fun i j => .int (i - j)) := opI fun _ _ _ _ _ _ _ _ q => sub_int q
theorem op_fdivZ : OpR X (binaryOp .FloorDiv) (rI (fun _ j => j ≠ 0 ∧ j.natAbs.log2 < 9000) fun i j => .int (i.fdiv j)) := opI fun _ _ _ _ _ _ _ hc q => floordiv_int hc.1 q (.inl (PyProof.noPylong_of_log2 hc.2))
def subM : MO := intM (fun _ _ => True) fun i j => i - j
def fdivM : MO := intM (fun _ j => j ≠ 0 ∧ j.natAbs.log2 < 9000) fun i j => i.fdiv j
def modM : MO := intM (fun _ j => j ≠ 0) fun i j => i.fmod j
def powM : MO := intM (fun i j => 0 ≤ j ∧ j ≤ 1000000 ∧ i.natAbs < 2 ^ 64) fun i j => i ^ j.toNat
theorem o_sub : SO X (binaryOp .Sub) subM := o_int op_sub'
theorem o_fdiv : SO X (binaryOp .FloorDiv) fdivM := o_int op_fdivZ
theorem o_mod : SO X (binaryOp .Mod) modM := o_int op_modN
theorem o_pow : SO X (binaryOp .Pow) powM := o_int op_pow

/-! ### + and * -/
def newL (h : IH) (ds : List D) : R D := .ok (.ref h.length) (h ++ [.lst ds])
def addM : MO := fun d e h => match d, e with
  | .int i, .int j => .ok (.int (i + j)) h
  | .str x, .str y => if x.length + y.length ≤ sizeLine then .ok (.str (x ++ y)) h else .stuck
  | .tup xs, .tup ys => if xs.length + ys.length ≤ sizeLine then .ok (.tup (xs ++ ys)) h else .stuck
  | .ref n, .ref m => match h[n]?, h[m]? with
    | some (.lst xs), some (.lst ys) => if xs.length + ys.length ≤ sizeLine then newL h (xs ++ ys) else .stuck
    | _, _ => .stuck
  | _, _ => .stuck
theorem RepL.nil_iff {K : PySem.W.Frag} {ρ : Rho} {H : Hp} {ds : List D} {vs : List V} (r : RepL K ρ H ds vs) : vs = [] ↔ ds = [] := by
  cases r <;> simp
theorem o_add : SO X (binaryOp .Add) addM := ⟨_, op_add.or (op_add_str.or (op_catA.or op_cat)), fun W ρ ih H σ Q d e x y rl hd he post => by
  unfold addM at post
  split at post
  · cases hd
    cases he
    exact .inl ⟨_, _, rfl, rfl, post ρ _ H .refl rl (.int _)⟩
  · cases hd
    cases he
    split at post
    · rename_i c
      exact .inr (.inl ⟨_, _, rfl, rfl, c, post ρ _ H .refl rl (.str _)⟩)
    · exact post.elim
  · rename_i xs ys
    cases hd with
    | @tup a vs _ h1 h2 =>
      cases he with
      | @tup b us _ g1 g2 =>
        split at post
        · rename_i c
          refine .inr (.inr (.inl ⟨a, b, vs, us, rfl, rfl, h1, g1, by rw [← h2.length, ← g2.length]; exact c, fun ev => ?_, fun _ eu => ?_, fun _ _ p hp => ?_⟩))
          · have := h2.nil_iff.mp ev
            subst this
            exact post ρ _ H .refl rl (.tup g1 (by simpa using g2))
          · have := g2.nil_iff.mp eu
            subst this
            exact post ρ _ H .refl rl (.tup h1 (by simpa using h2))
          · exact post ρ _ _ (Ext.fresh hp) (rl.aside hp) (.tup (SqT.of upd_same) ((h2.append g2).ext (Ext.fresh hp)))
        · exact post.elim
  · split at post
    · rename_i n m xs ys hn hm
      split at post
      · rename_i c
        cases hd with
        | @ref _ a ha =>
          cases he with
          | @ref _ b hb =>
            obtain ⟨vs, e1, r1⟩ := rl.lst ha hn
            obtain ⟨us, e2, r2⟩ := rl.lst hb hm
            refine .inr (.inr (.inr ⟨a, b, vs, us, rfl, rfl, e1, e2, by rw [← r1.length, ← r2.length]; exact c, fun p hp => ?_⟩))
            obtain ⟨ρ', x', rl', rv⟩ := alloc rl hp (r1.append r2)
            exact post ρ' _ _ x' rl' rv
      · exact post.elim
    · exact post.elim
  · exact post.elim⟩
def mulM : MO := fun d e h => match d, e with
  | .int i, .int j => if small i j then .ok (.int (i * j)) h else .stuck
  | .ref n, .int k => match h[n]? with
    | some (.lst xs) => if -(2 ^ 63) ≤ k ∧ k < 2 ^ 63 ∧ xs.length * k.toNat ≤ sizeLine then newL h (List.replicate k.toNat xs).flatten else .stuck
    | _ => .stuck
  | .tup xs, .int k => if xs.isEmpty = false ∧ 2 ≤ k ∧ k ≤ 1000 ∧ xs.length ≤ 1000 then .ok (.tup (List.replicate k.toNat xs).flatten) h else .stuck
  | _, _ => .stuck
theorem RepL.rep {K : PySem.W.Frag} {ρ : Rho} {H : Hp} {ds : List D} {vs : List V} (r : RepL K ρ H ds vs) : ∀ n : Nat, RepL K ρ H (List.replicate n ds).flatten (List.replicate n vs).flatten
  | 0 => .nil
  | n + 1 => by
    rw [List.replicate_succ, List.replicate_succ, List.flatten_cons, List.flatten_cons]
    exact r.append (RepL.rep r n)
theorem o_mul : SO X (binaryOp .Mult) mulM := ⟨_, op_mulW.or (op_rep.or op_repT), fun W ρ ih H σ Q d e x y rl hd he post => by
  unfold mulM at post
  split at post
  · cases hd
    cases he
    split at post
    · rename_i c
      exact .inl ⟨_, _, rfl, rfl, c, post ρ _ H .refl rl (.int _)⟩
    · exact post.elim
  · split at post
    · rename_i n k _ xs hn
      split at post
      · rename_i c
        cases hd with
        | @ref _ a ha =>
          cases he
          obtain ⟨vs, e1, r1⟩ := rl.lst ha hn
          refine .inr (.inl ⟨a, k, vs, rfl, rfl, e1, c.1, c.2.1, by rw [← r1.length]; exact c.2.2, fun p hp => ?_⟩)
          obtain ⟨ρ', x', rl', rv⟩ := alloc rl hp (r1.rep k.toNat)
          exact post ρ' _ _ x' rl' rv
      · exact post.elim
    · exact post.elim
  · split at post
    · rename_i xs k c
      cases hd with
      | @tup b vs xs q1 q2 =>
        cases he
        refine .inr (.inr ⟨b, k, vs, rfl, rfl, q1, ?_, c.2.1, c.2.2.1, by rw [← q2.length]; exact c.2.2.2, fun p hp => ?_⟩)
        · rintro rfl
          have := q2.length
          have c1 := c.1
          cases xs with
          | nil => cases c1
          | cons _ _ => cases this
        · exact post ρ _ _ (Ext.fresh hp) (rl.aside hp) (.tup (SqT.of upd_same) ((q2.rep k.toNat).ext (Ext.fresh hp)))
    · exact post.elim
  · exact post.elim⟩

/-! ### is -/
def isM (neg : Bool) : MO := fun d e h => match d, e with
  | .bl a, .bl b => .ok (.bl (xor neg (a == b))) h
  | .non, .non => .ok (.bl (!neg)) h
  | .int _, .non | .bl _, .non | .str _, .non | .tup _, .non | .ref _, .non | .fz _, .non => .ok (.bl neg) h
  | _, _ => .stuck
theorem RepV.non_iff {K : PySem.W.Frag} {ρ : Rho} {H : Hp} {d : D} {v : V} (r : RepV K ρ H d v) : (v = .non) ↔ d = .non := by
  cases r <;> simp
theorem o_is : SO X (compareOp .Is) (isM false) := ⟨_, op_isBl.or op_isN, fun W ρ ih H σ Q d e x y rl hd he post => by
  unfold isM at post
  split at post
  · rename_i a b
    cases hd
    cases he
    refine .inl ⟨_, _, rfl, rfl, ?_⟩
    have e : decide (a = b) = xor false (a == b) := by cases a <;> cases b <;> rfl
    rw [e]
    exact post ρ _ H .refl rl (.bl _)
  · cases hd
    cases he
    exact .inr ⟨rfl, post ρ _ H .refl rl (.bl _)⟩
  all_goals first
    | exact post.elim
    | (cases he
       refine .inr ⟨rfl, ?_⟩
       have z : decide (x = V.non) = false := decide_eq_false fun z => by
         have := hd.non_iff.mp z
         cases this
       rw [z]
       exact post ρ _ H .refl rl (.bl _))⟩
theorem o_isnot : SO X (compareOp .IsNot) (isM true) := ⟨_, op_notBl.or op_notN, fun W ρ ih H σ Q d e x y rl hd he post => by
  unfold isM at post
  split at post
  · rename_i a b
    cases hd
    cases he
    refine .inl ⟨_, _, rfl, rfl, ?_⟩
    have e : (!decide (a = b)) = xor true (a == b) := by cases a <;> cases b <;> rfl
    rw [e]
    exact post ρ _ H .refl rl (.bl _)
  · cases hd
    cases he
    exact .inr ⟨rfl, post ρ _ H .refl rl (.bl _)⟩
  all_goals first
    | exact post.elim
    | (cases he
       refine .inr ⟨rfl, ?_⟩
       have z : decide (x = V.non) = false := decide_eq_false fun z => by
         have := hd.non_iff.mp z
         cases this
       rw [z]
       exact post ρ _ H .refl rl (.bl _))⟩
end
end Z
/-! Z4: one thing behind another; displays, tests, and, or, not, if. -/
namespace Z
open PySem PySem.Spec PyProof.Rows L2
/-- a wish of ends, closed under what may happen ahead -/
structure Lk {γ : Type} (K : PySem.W.Frag) (mg : Str → Option Value) (W : WX) (σ : L2.St) (ρ : Rho) (H : Hp) (P : Rho → Hp → γ → Prop) (fe : Exc → IH → γ) (st : γ) : Prop where
  ext : ∀ ρ1 H1 ρ' H' r, P ρ1 H1 r → Ext ρ1 H1 ρ' H' → P ρ' H' r
  exc : ∀ x h, P ρ H (fe x h) → ∀ ρ' cls od H', Ext ρ H ρ' H' → RelH K ρ' h H' → RepX K mg ρ' H' x cls od → W cls od σ H'
  stuck : ¬ P ρ H st
section
variable {K : PySem.W.Frag} {mg : Str → Option Value} {W : WX} {σ : L2.St} {ρ : Rho} {H : Hp}
theorem lkE {Q : VK} : Lk K mg W σ ρ H (fun ρ H r => PostE K mg W ρ σ H Q r) .exc .stuck := ⟨fun _ _ _ _ _ h x => h.ext x, fun _ _ h => h, fun h => h⟩
theorem lkT {Q : Bool → Hp → Prop} : Lk K mg W σ ρ H (fun ρ H r => PostT K mg W ρ σ H Q r) .exc .stuck := ⟨fun _ _ _ _ _ h x => h.ext x, fun _ _ h => h, fun h => h⟩
theorem lkA {Q : List V → Hp → Prop} : Lk K mg W σ ρ H (fun ρ H r => PostA K mg W ρ σ H Q r) .exc .stuck := ⟨fun _ _ _ _ _ h x => h.ext x, fun _ _ h => h, fun h => h⟩
theorem lkS {env : Ev} {ih : IH} {N : Ends} (rl : Rel K xp ρ env ih σ H) : Lk K mg W σ ρ H (fun ρ H r => PostS K mg W xp ρ H N r) (fun x h => .exc x env h) .stuck :=
  ⟨fun _ _ _ _ _ h x => h.ext x, fun _ _ h ρ' cls od H' x r q => h ρ' cls od σ H' x (rl.next x r) q, fun h => h⟩
theorem Lk.mono {γ : Type} {P : Rho → Hp → γ → Prop} {fe : Exc → IH → γ} {st : γ} (l : ∀ ρ H, Lk K mg W σ ρ H P fe st) : ∀ ρ H, Lk K mg W σ ρ H P fe st := l
end
section
variable {xp : Option XP} {X : Cx} {W : WX} {γ : Type} {P : Rho → Hp → γ → Prop} {fe : Exc → IH → γ} {st : γ} {ρ : Rho} {env : Ev} {ih : IH} {σ : L2.St} {H : Hp}
theorem fstE {ta : TE} {ma : ME} {f : D → IH → γ} {S : VK} (ha : ∀ ρ env ih σ H Q, Rel X.K xp ρ env ih σ H → PostE X.K X.mg W ρ σ H Q (ma env ih) → ta σ H Q) (rl : Rel X.K xp ρ env ih σ H)
    (l : Lk X.K X.mg W σ ρ H P fe st) (post : P ρ H ((ma env ih).bindG fe st f))
    (k : ∀ ρ1 d h1 v H1, Ext ρ H ρ1 H1 → RelH X.K ρ1 h1 H1 → RepV X.K ρ1 H1 d v → P ρ1 H1 (f d h1) → S v H1) : ta σ H S := by
  refine ha _ _ _ _ _ _ rl ?_
  revert post
  cases ma env ih with
  | ok x h1 => exact fun post ρ1 v H1 e1 r1 p1 => k ρ1 x h1 v H1 e1 r1 p1 (l.ext _ _ _ _ _ post e1)
  | exc x h => exact fun post => l.exc x h post
  | stuck => exact fun post => l.stuck post
theorem fstT {ta : TT} {ma : MT} {f : Bool → IH → γ} {S : Bool → Hp → Prop} (ha : ∀ ρ env ih σ H Q, Rel X.K xp ρ env ih σ H → PostT X.K X.mg W ρ σ H Q (ma env ih) → ta σ H Q) (rl : Rel X.K xp ρ env ih σ H)
    (l : Lk X.K X.mg W σ ρ H P fe st) (post : P ρ H ((ma env ih).bindG fe st f))
    (k : ∀ ρ1 b h1 H1, Ext ρ H ρ1 H1 → RelH X.K ρ1 h1 H1 → P ρ1 H1 (f b h1) → S b H1) : ta σ H S := by
  refine ha _ _ _ _ _ _ rl ?_
  revert post
  cases ma env ih with
  | ok x h1 => exact fun post ρ1 H1 e1 r1 => k ρ1 x h1 H1 e1 r1 (l.ext _ _ _ _ _ post e1)
  | exc x h => exact fun post => l.exc x h post
  | stuck => exact fun post => l.stuck post
theorem fstA {ta : TA} {ma : MA} {f : List D → IH → γ} {S : List V → Hp → Prop} (ha : ∀ ρ env ih σ H Q, Rel X.K xp ρ env ih σ H → PostA X.K X.mg W ρ σ H Q (ma env ih) → ta σ H Q) (rl : Rel X.K xp ρ env ih σ H)
    (l : Lk X.K X.mg W σ ρ H P fe st) (post : P ρ H ((ma env ih).bindG fe st f))
    (k : ∀ ρ1 ds h1 vs H1, Ext ρ H ρ1 H1 → RelH X.K ρ1 h1 H1 → RepL X.K ρ1 H1 ds vs → P ρ1 H1 (f ds h1) → S vs H1) : ta σ H S := by
  refine ha _ _ _ _ _ _ rl ?_
  revert post
  cases ma env ih with
  | ok x h1 => exact fun post ρ1 v H1 e1 r1 p1 => k ρ1 x h1 v H1 e1 r1 p1 (l.ext _ _ _ _ _ post e1)
  | exc x h => exact fun post => l.exc x h post
  | stuck => exact fun post => l.stuck post
end
section
variable {xp : Option XP} {X : Cx} {a b c : Expr} {ma mb mc : ME} {pos : Pos}
/-- two expressions, then an end -/
theorem bin2 {W : WX} {ta tb : TE} {m : MO} {S : V → V → Hp → Prop} {Q : VK}
    (ha : ∀ ρ env ih σ H Q, Rel X.K xp ρ env ih σ H → PostE X.K X.mg W ρ σ H Q (ma env ih) → ta σ H Q)
    (hb : ∀ ρ env ih σ H Q, Rel X.K xp ρ env ih σ H → PostE X.K X.mg W ρ σ H Q (mb env ih) → tb σ H Q)
    {ρ : Rho} {env : Ev} {ih : IH} {σ : L2.St} {H : Hp} (rl : Rel X.K xp ρ env ih σ H) (post : PostE X.K X.mg W ρ σ H Q (binM m ma mb env ih))
    (hr : ∀ ρ1 ih H1 d e x y, Ext ρ H ρ1 H1 → RelH X.K ρ1 ih H1 → RepV X.K ρ1 H1 d x → RepV X.K ρ1 H1 e y → PostE X.K X.mg W ρ1 σ H1 Q (m d e ih) → S x y H1) :
    ta σ H fun x H1 => tb σ H1 fun y H2 => S x y H2 := by
  refine fstE (ta := ta) ha rl (lkE (Q := Q)) post fun ρ1 d h1 v H1 e1 r1 p1 post => ?_
  exact fstE (ta := tb) hb (rl.next e1 r1) (lkE (Q := Q)) post fun ρ2 e h2 u H2 e2 r2 p2 post => hr ρ2 h2 H2 d e v u (e1.trans e2) r2 (p1.ext e2) p2 post
theorem s_bin {op : Operator} {m : MO} (o : SO X (binaryOp op) m) (A : SE xp X a ma) (B : SE xp X b mb) : SE xp X (.BinOp a op b pos) (binM m ma mb) := fun W tk => by
  obtain ⟨ta, pa, ha⟩ := A W tk
  obtain ⟨tb, pb, hb⟩ := B W tk
  obtain ⟨r, ho, hr⟩ := o
  exact ⟨_, pe_op ho pa pb, fun ρ env ih σ H Q rl post => bin2 ha hb rl post fun ρ1 ih1 H1 d e x y _ h1 h2 h3 => hr W ρ1 ih1 H1 σ Q d e x y h1 h2 h3⟩
theorem s_cmp {op : CmpOp} {m : MO} (o : SO X (compareOp op) m) (A : SE xp X a ma) (B : SE xp X b mb) (hm : behindInMarks op b = false := by first | exact nomark _ | rfl | with_unfolding_all rfl) : SE xp X (.Compare a [op] [b] pos) (binM m ma mb) := fun W tk => by
  obtain ⟨ta, pa, ha⟩ := A W tk
  obtain ⟨tb, pb, hb⟩ := B W tk
  obtain ⟨r, ho, hr⟩ := o
  exact ⟨_, pe_cmpR ho pa pb hm, fun ρ env ih σ H Q rl post => bin2 ha hb rl post fun ρ1 ih1 H1 d e x y _ h1 h2 h3 => hr W ρ1 ih1 H1 σ Q d e x y h1 h2 h3⟩
/-- a < b < c, behind a < b -/
def chain2 (o' : MO) (mc : ME) (env : Ev) (y : D) : D → IH → R D
  | .bl true, h => (mc env h).bind fun w h => o' y w h
  | .bl false, h => .ok (.bl false) h
  | _, _ => .stuck
def chainM (o o' : MO) (ma mb mc : ME) : ME := fun env h => (ma env h).bind fun x h => (mb env h).bind fun y h => (o x y h).bind fun z h => chain2 o' mc env y z h
theorem chain_ok {W : WX} {ta tb tc : TE} {r r' : R2} {m m' : MO} {Q : VK} {ρ : Rho} {env : Ev} {ih : IH} {σ : L2.St} {H : Hp}
    (hr : ∀ W ρ ih H σ Q d e x y, RelH X.K ρ ih H → RepV X.K ρ H d x → RepV X.K ρ H e y → PostE X.K X.mg W ρ σ H Q (m d e ih) → r x y H Q)
    (hr' : ∀ W ρ ih H σ Q d e x y, RelH X.K ρ ih H → RepV X.K ρ H d x → RepV X.K ρ H e y → PostE X.K X.mg W ρ σ H Q (m' d e ih) → r' x y H Q)
    (ha : ∀ ρ env ih σ H Q, Rel X.K xp ρ env ih σ H → PostE X.K X.mg W ρ σ H Q (ma env ih) → ta σ H Q)
    (hb : ∀ ρ env ih σ H Q, Rel X.K xp ρ env ih σ H → PostE X.K X.mg W ρ σ H Q (mb env ih) → tb σ H Q)
    (hc : ∀ ρ env ih σ H Q, Rel X.K xp ρ env ih σ H → PostE X.K X.mg W ρ σ H Q (mc env ih) → tc σ H Q)
    (rl : Rel X.K xp ρ env ih σ H) (post : PostE X.K X.mg W ρ σ H Q (chainM m m' ma mb mc env ih)) : tChain r r' ta tb tc σ H Q := by
  refine fstE (ta := ta) ha rl (lkE (Q := Q)) post fun ρ1 d h1 v H1 e1 r1 p1 post => ?_
  have rl1 := rl.next e1 r1
  refine fstE (ta := tb) hb rl1 (lkE (Q := Q)) post fun ρ2 e h2 u H2 e2 r2 p2 post => ?_
  have rl2 := rl1.next e2 r2
  refine hr W ρ2 h2 H2 σ _ d e v u r2 (p1.ext e2) p2 ?_
  revert post
  cases m d e h2 with
  | ok z h3 =>
    intro post ρ3 z' H3 e3 r3 p3
    have post : PostE X.K X.mg W ρ3 σ H3 Q (chain2 m' mc env e z h3) := PostE.ext post e3
    cases p3 with
    | bl b =>
      cases b with
      | true => exact ⟨true, rfl, fstE (ta := tc) hc (rl2.next e3 r3) (lkE (Q := Q)) post fun ρ4 w h4 w' H4 e4 r4 p4 post => hr' W ρ4 h4 H4 σ Q e w u w' r4 (p2.ext (e3.trans e4)) p4 post⟩
      | false => exact ⟨false, rfl, post ρ3 _ H3 .refl r3 (.bl _)⟩
    | _ => exact False.elim post
  | exc x h => exact fun post => post
  | stuck => exact fun post => post
theorem s_chain {op op' : CmpOp} {m m' : MO} (o : SO X (compareOp op) m) (o' : SO X (compareOp op') m') (A : SE xp X a ma) (B : SE xp X b mb) (C : SE xp X c mc)
    (hm : lastMarks [op, op'] [b, c] = false := by with_unfolding_all rfl) : SE xp X (.Compare a [op, op'] [b, c] pos) (chainM m m' ma mb mc) := fun W tk => by
  obtain ⟨ta, pa, ha⟩ := A W tk
  obtain ⟨tb, pb, hb⟩ := B W tk
  obtain ⟨tc, pc, hc⟩ := C W tk
  obtain ⟨r, ho, hr⟩ := o
  obtain ⟨r', ho', hr'⟩ := o'
  refine ⟨_, pe_chain ho ho' pa pb pc hm, fun ρ env ih σ H Q rl post => ?_⟩
  exact chain_ok hr hr' ha hb hc rl post
end
section
variable {xp : Option XP} {X : Cx} {a b e : Expr} {es rest : List Expr} {ma mb : ME} {mt : MT} {ms : MA} {pos : Pos}
/-! ### argument lists, displays -/
def anilM : MA := fun _ h => .ok [] h
def aconsM (ma : ME) (ms : MA) : MA := fun env h => (ma env h).bind fun d h => (ms env h).bind fun ds h => .ok (d :: ds) h
theorem s_anil : SA xp X [] anilM := fun W tk => ⟨_, pa_nil, fun ρ env ih σ H Q rl post => post ρ [] H .refl rl.hp .nil⟩
theorem s_acons (A : SE xp X e ma) (B : SA xp X es ms) (hs : starEach (e :: es) X.env = (false, eval e X.env) :: starEach es X.env := by rfl) : SA xp X (e :: es) (aconsM ma ms) := fun W tk => by
  obtain ⟨ta, pa, ha⟩ := A W tk
  obtain ⟨tb, pb, hb⟩ := B W tk
  refine ⟨_, pa_cons pa pb hs, fun ρ env ih σ H Q rl post => ?_⟩
  refine fstE (ta := ta) ha rl (lkA (Q := Q)) post fun ρ1 d h1 v H1 e1 r1 p1 post => ?_
  exact fstA (ta := tb) hb (rl.next e1 r1) (lkA (Q := Q)) post fun ρ2 ds h2 vs H2 e2 r2 p2 post => post ρ2 _ H2 .refl r2 (.cons (p1.ext e2) p2)
def tupM (ms : MA) : ME := fun env h => (ms env h).bind fun ds h => if ds.length ≤ sizeLine then .ok (.tup ds) h else .stuck
def lstM (ms : MA) : ME := fun env h => (ms env h).bind fun ds h => if ds.length ≤ sizeLine then newL h ds else .stuck
theorem s_tup {p1 : Nat} (A : SA xp X es ms) : SE xp X (.Tuple es p1 pos) (tupM ms) := fun W tk => by
  obtain ⟨ta, pa, ha⟩ := A W tk
  refine ⟨_, pe_tup pa, fun ρ env ih σ H Q rl post => ?_⟩
  refine fstA (ta := ta) ha rl (lkE (Q := Q)) post fun ρ1 ds h1 vs H1 e1 r1 p1 post => ?_
  split at post
  · rename_i c
    exact ⟨by rw [← p1.length]; exact c, fun p hp => post ρ1 _ _ (Ext.fresh hp) (r1.aside hp) (.tup (SqT.of upd_same) (p1.ext (Ext.fresh hp)))⟩
  · exact post.elim
theorem s_lst (A : SA xp X es ms) : SE xp X (.List es pos) (lstM ms) := fun W tk => by
  obtain ⟨ta, pa, ha⟩ := A W tk
  refine ⟨_, pe_lst pa, fun ρ env ih σ H Q rl post => ?_⟩
  refine fstA (ta := ta) ha rl (lkE (Q := Q)) post fun ρ1 ds h1 vs H1 e1 r1 p1 post => ?_
  split at post
  · rename_i c
    refine ⟨by rw [← p1.length]; exact c, fun p hp => ?_⟩
    obtain ⟨ρ', x', rl', rv⟩ := alloc r1 hp p1
    exact post ρ' _ _ x' rl' rv
  · exact post.elim

/-! ### truth -/
def truB (h : IH) : D → Option Bool
  | .non => some false
  | .bl b => some b
  | .int i => some (i != 0)
  | .str x => if x.length ≤ sizeLine then some ((x.length : Int) != 0) else none
  | .tup ds => some (!ds.isEmpty)
  | .fz ds => some (!ds.isEmpty)
  | .ref n => match h[n]? with
    | some (.lst ds) => some (!ds.isEmpty)
    | _ => none
  | .xv => none
theorem RepL.isEmpty {K : PySem.W.Frag} {ρ : Rho} {ds : List D} {vs : List V} {H : Hp} (r : RepL K ρ H ds vs) : ds.isEmpty = vs.isEmpty := by cases r <;> rfl
theorem truV_of {K : PySem.W.Frag} {ρ : Rho} {H : Hp} {ih : IH} (rl : RelH K ρ ih H) {d : D} {v : V} {b : Bool} (q : truB ih d = some b) (r : RepV K ρ H d v) : TruV K v H b := by
  cases r with
  | non => cases q; rfl
  | bl c => cases q; rfl
  | int i => cases q; rfl
  | str x =>
    have q' : (if x.length ≤ sizeLine then some ((x.length : Int) != 0) else none) = some b := q
    split at q'
    · rename_i c
      cases q'
      exact ⟨c, rfl⟩
    · cases q'
  | tup h1 h2 =>
    cases q
    exact .inr (.inl ⟨_, h1, by rw [h2.isEmpty]⟩)
  | fz h1 h2 =>
    cases q
    exact .inl ⟨_, h1.sq, by rw [h2.isEmpty]⟩
  | @ref n a h1 =>
    have q' : (match ih[n]? with
      | some (.lst ds) => some (!ds.isEmpty)
      | _ => none) = some b := q
    split at q'
    · rename_i ds hn
      cases q'
      obtain ⟨vs, e, r⟩ := rl.lst h1 hn
      exact .inl ⟨vs, SqL.of e, by rw [r.isEmpty]⟩
    · cases q'
def testM (ma : ME) : MT := fun env h => (ma env h).bind fun d h => match truB h d with
  | some b => .ok b h
  | none => .stuck
theorem t_truth (A : SE xp X a ma) (he : ∀ whole, isTrue a X.env whole = (do let v ← whole; standAt a.pos; holding [v] (truthy v)) := by intro _; rfl) : ST xp X a (testM ma) := fun W tk => by
  obtain ⟨ta, pa, ha⟩ := A W tk
  refine ⟨_, pt_truth pa he, fun ρ env ih σ H Q rl post => ?_⟩
  refine fstE (ta := ta) ha rl (lkT (Q := Q)) post fun ρ1 d h1 v H1 e1 r1 p1 post => ?_
  split at post
  · rename_i b q
    exact ⟨b, truV_of r1 q p1, post ρ1 H1 .refl r1⟩
  · exact post.elim
def tnotM (mt : MT) : MT := fun env h => (mt env h).bind fun b h => .ok (!b) h
theorem t_not (A : ST xp X a mt) : ST xp X (.UnaryOp .Not a pos) (tnotM mt) := fun W tk => by
  obtain ⟨ta, pa, ha⟩ := A W tk
  refine ⟨_, pt_not pa, fun ρ env ih σ H Q rl post => ?_⟩
  exact fstT (ta := ta) ha rl (lkT (Q := Q)) post fun ρ1 b h1 H1 e1 r1 post => post ρ1 H1 .refl r1
def tandM (m1 m2 : MT) : MT := fun env h => (m1 env h).bind fun b h => if b = true then m2 env h else .ok false h
def torM (m1 m2 : MT) : MT := fun env h => (m1 env h).bind fun b h => if b = true then .ok true h else m2 env h
theorem w_and1 (A : ST xp X a mt) : SW xp X (.BoolOp .And [a] pos) mt := fun W tk => by
  obtain ⟨ta, pa, ha⟩ := A W tk
  exact ⟨_, pw_and1 pa, ha⟩
theorem w_or1 (A : ST xp X a mt) : SW xp X (.BoolOp .Or [a] pos) mt := fun W tk => by
  obtain ⟨ta, pa, ha⟩ := A W tk
  exact ⟨_, pw_or1 pa, ha⟩
variable {m1 m2 : MT}
theorem w_and (A : ST xp X a m1) (B : SW xp X (.BoolOp .And (b :: rest) pos) m2) : SW xp X (.BoolOp .And (a :: b :: rest) pos) (tandM m1 m2) := fun W tk => by
  obtain ⟨ta, pa, ha⟩ := A W tk
  obtain ⟨tb, pb, hb⟩ := B W tk
  refine ⟨_, pw_and pa pb, fun ρ env ih σ H Q rl post => ?_⟩
  refine fstT (ta := ta) ha rl (lkT (Q := Q)) post fun ρ1 b h1 H1 e1 r1 post => ?_
  cases b with
  | true => exact hb _ _ _ _ _ _ (rl.next e1 r1) post
  | false => exact post ρ1 H1 .refl r1
theorem w_or (A : ST xp X a m1) (B : SW xp X (.BoolOp .Or (b :: rest) pos) m2) : SW xp X (.BoolOp .Or (a :: b :: rest) pos) (torM m1 m2) := fun W tk => by
  obtain ⟨ta, pa, ha⟩ := A W tk
  obtain ⟨tb, pb, hb⟩ := B W tk
  refine ⟨_, pw_or pa pb, fun ρ env ih σ H Q rl post => ?_⟩
  refine fstT (ta := ta) ha rl (lkT (Q := Q)) post fun ρ1 b h1 H1 e1 r1 post => ?_
  cases b with
  | true => exact post ρ1 H1 .refl r1
  | false => exact hb _ _ _ _ _ _ (rl.next e1 r1) post
theorem t_of_w (A : SW xp X a mt) : ST xp X a mt := fun W tk => by
  obtain ⟨ta, pa, ha⟩ := A W tk
  exact ⟨_, pa.pt, ha⟩

/-! ### and, or, not as values -/
def andM (ma mb : ME) : ME := fun env h => (ma env h).bind fun d h => match truB h d with
  | some true => mb env h
  | some false => .ok d h
  | none => .stuck
def orM (ma mb : ME) : ME := fun env h => (ma env h).bind fun d h => match truB h d with
  | some true => .ok d h
  | some false => mb env h
  | none => .stuck
def notM (ma : ME) : ME := fun env h => (ma env h).bind fun d h => match truB h d with
  | some b => .ok (.bl (!b)) h
  | none => .stuck
theorem s_one {op : BoolOp} (A : SE xp X a ma) : SE xp X (.BoolOp op [a] pos) ma := fun W tk => by
  obtain ⟨ta, pa, ha⟩ := A W tk
  exact ⟨_, pe_one pa, ha⟩
theorem s_and (A : SE xp X a ma) (B : SE xp X (.BoolOp .And (b :: rest) pos) mb) : SE xp X (.BoolOp .And (a :: b :: rest) pos) (andM ma mb) := fun W tk => by
  obtain ⟨ta, pa, ha⟩ := A W tk
  obtain ⟨tb, pb, hb⟩ := B W tk
  refine ⟨_, pe_andT pa pb, fun ρ env ih σ H Q rl post => ?_⟩
  refine fstE (ta := ta) ha rl (lkE (Q := Q)) post fun ρ1 d h1 v H1 e1 r1 p1 post => ?_
  split at post
  · rename_i q
    exact ⟨true, truV_of r1 q p1, hb _ _ _ _ _ _ (rl.next e1 r1) post⟩
  · rename_i q
    exact ⟨false, truV_of r1 q p1, post ρ1 v H1 .refl r1 p1⟩
  · exact post.elim
theorem s_or (A : SE xp X a ma) (B : SE xp X (.BoolOp .Or (b :: rest) pos) mb) : SE xp X (.BoolOp .Or (a :: b :: rest) pos) (orM ma mb) := fun W tk => by
  obtain ⟨ta, pa, ha⟩ := A W tk
  obtain ⟨tb, pb, hb⟩ := B W tk
  refine ⟨_, pe_orT pa pb, fun ρ env ih σ H Q rl post => ?_⟩
  refine fstE (ta := ta) ha rl (lkE (Q := Q)) post fun ρ1 d h1 v H1 e1 r1 p1 post => ?_
  split at post
  · rename_i q
    exact ⟨true, truV_of r1 q p1, post ρ1 v H1 .refl r1 p1⟩
  · rename_i q
    exact ⟨false, truV_of r1 q p1, hb _ _ _ _ _ _ (rl.next e1 r1) post⟩
  · exact post.elim
theorem s_not (A : SE xp X a ma) : SE xp X (.UnaryOp .Not a pos) (notM ma) := fun W tk => by
  obtain ⟨ta, pa, ha⟩ := A W tk
  refine ⟨_, pe_notT pa, fun ρ env ih σ H Q rl post => ?_⟩
  refine fstE (ta := ta) ha rl (lkE (Q := Q)) post fun ρ1 d h1 v H1 e1 r1 p1 post => ?_
  split at post
  · rename_i b q
    exact ⟨b, truV_of r1 q p1, post ρ1 _ H1 .refl r1 (.bl _)⟩
  · exact post.elim
def iteM (mt : MT) (ma mb : ME) : ME := fun env h => (mt env h).bind fun b h => if b = true then ma env h else mb env h
theorem s_if {c : Expr} (C : ST xp X c mt) (A : SE xp X a ma) (B : SE xp X b mb) : SE xp X (.IfExp c a b pos) (iteM mt ma mb) := fun W tk => by
  obtain ⟨tc, pc, hc⟩ := C W tk
  obtain ⟨ta, pa, ha⟩ := A W tk
  obtain ⟨tb, pb, hb⟩ := B W tk
  refine ⟨_, pe_ifExp pc pa pb, fun ρ env ih σ H Q rl post => ?_⟩
  refine fstT (ta := tc) hc rl (lkE (Q := Q)) post fun ρ1 b h1 H1 e1 r1 post => ?_
  cases b with
  | true => exact ha _ _ _ _ _ _ (rl.next e1 r1) post
  | false => exact hb _ _ _ _ _ _ (rl.next e1 r1) post
def negM (ma : ME) : ME := fun env h => (ma env h).bind fun d h => match d with
  | .int i => .ok (.int (-i)) h
  | _ => .stuck
theorem s_neg (A : SE xp X a ma) : SE xp X (.UnaryOp .USub a pos) (negM ma) := fun W tk => by
  obtain ⟨ta, pa, ha⟩ := A W tk
  refine ⟨_, pe_un un_neg pa, fun ρ env ih σ H Q rl post => ?_⟩
  refine fstE (ta := ta) ha rl (lkE (Q := Q)) post fun ρ1 d h1 v H1 e1 r1 p1 post => ?_
  split at post
  · cases p1
    exact ⟨_, rfl, post ρ1 _ H1 .refl r1 (.int _)⟩
  · exact post.elim
/-! comparisons as tests -/
def btestM (ma : ME) : MT := fun env h => (ma env h).bind fun d h => match d with
  | .bl b => .ok b h
  | _ => .stuck
variable {c : Expr} {mc : ME}
theorem post_bt {K : PySem.W.Frag} {mg : Str → Option Value} {W : WX} {ρ : Rho} {σ : L2.St} {H : Hp} {Q : Bool → Hp → Prop} {r : R D} (post : PostT K mg W ρ σ H Q (r.bind fun d h => match d with
    | .bl b => .ok b h
    | _ => .stuck)) : PostE K mg W ρ σ H (fun x H' => ∃ k, x = .bl k ∧ Q k H') r := by
  cases r with
  | ok d h =>
    intro ρ' v H' x rl rv
    cases d with
    | bl b => cases rv; exact ⟨b, rfl, post ρ' H' x rl⟩
    | _ => exact post.elim
  | exc x h => exact post
  | stuck => exact post
theorem t_cmp {op : CmpOp} {m : MO} (o : SO X (compareOp op) m) (A : SE xp X a ma) (B : SE xp X b mb) (hm : behindInMarks op b = false := by first | exact nomark _ | rfl | with_unfolding_all rfl) : ST xp X (.Compare a [op] [b] pos) (btestM (binM m ma mb)) := fun W tk => by
  obtain ⟨ta, pa, ha⟩ := A W tk
  obtain ⟨tb, pb, hb⟩ := B W tk
  obtain ⟨r, ho, hr⟩ := o
  exact ⟨_, pt_cmpR ho pa pb hm, fun ρ env ih σ H Q rl post => bin2 (ta := ta) (tb := tb) ha hb rl (post_bt post) fun ρ1 ih1 H1 d e x y _ h1 h2 h3 => hr W ρ1 ih1 H1 σ _ d e x y h1 h2 h3⟩
theorem t_chain {op op' : CmpOp} {m m' : MO} (o : SO X (compareOp op) m) (o' : SO X (compareOp op') m') (A : SE xp X a ma) (B : SE xp X b mb) (C : SE xp X c mc)
    (hm : lastMarks [op, op'] [b, c] = false := by with_unfolding_all rfl) : ST xp X (.Compare a [op, op'] [b, c] pos) (btestM (chainM m m' ma mb mc)) := fun W tk => by
  obtain ⟨ta, pa, ha⟩ := A W tk
  obtain ⟨tb, pb, hb⟩ := B W tk
  obtain ⟨tc, pc, hc⟩ := C W tk
  obtain ⟨r, ho, hr⟩ := o
  obtain ⟨r', ho', hr'⟩ := o'
  refine ⟨_, pt_chain ho ho' pa pb pc hm, fun ρ env ih σ H Q rl post => ?_⟩
  exact chain_ok hr hr' ha hb hc rl (post_bt post)
end
end Z
/-! Z5: calls; what a def does; statements. -/
namespace Z
open PySem PySem.Spec PyProof.Rows L2

/-! ### references below a number -/
mutual
def D.lt (n : Nat) : D → Bool
  | .tup xs => D.ltL n xs
  | .fz xs => D.ltL n xs
  | .ref k => decide (k < n)
  | _ => true
def D.ltL (n : Nat) : List D → Bool
  | [] => true
  | d :: ds => D.lt n d && D.ltL n ds
end
section
variable {K : PySem.W.Frag} {ρ ρ' : Rho} {H H' : Hp}
mutual
theorem RepV.lt : ∀ {d : D} {v : V}, RepV K ρ H d v → d.lt ρ.as.length = true
  | .non, _, _ => rfl
  | .bl _, _, _ => rfl
  | .int _, _, _ => rfl
  | .str _, _, _ => rfl
  | .tup _, _, .tup _ h => RepL.lt h
  | .ref _, _, .ref h => decide_eq_true (List.getElem?_eq_some_iff.mp h).1
  | .fz _, _, .fz _ h => RepL.lt h
  | .xv, _, _ => rfl
theorem RepL.lt : ∀ {ds : List D} {vs : List V}, RepL K ρ H ds vs → D.ltL ρ.as.length ds = true
  | [], _, _ => rfl
  | _ :: _, _, .cons h t => by
    show (_ && _) = true
    rw [RepV.lt h, RepL.lt t]; rfl
end
mutual
theorem RepV.back (p : ρ.as <+: ρ'.as) : ∀ {d : D} {v : V}, RepV K ρ' H' d v → d.lt ρ.as.length = true → RepV K ρ H' d v
  | .non, _, .non, _ => .non
  | .bl _, _, .bl _, _ => .bl _
  | .int _, _, .int _, _ => .int _
  | .str _, _, .str _, _ => .str _
  | .tup _, _, .tup h1 h2, l => .tup h1 (RepL.back p h2 l)
  | .ref n, _, .ref h, l => by
    have hn : n < ρ.as.length := of_decide_eq_true l
    obtain ⟨t, e⟩ := p
    rw [← e, List.getElem?_append_left hn] at h
    exact .ref h
  | .fz _, _, .fz h1 h2, l => .fz h1 (RepL.back p h2 l)
theorem RepL.back (p : ρ.as <+: ρ'.as) : ∀ {ds : List D} {vs : List V}, RepL K ρ' H' ds vs → D.ltL ρ.as.length ds = true → RepL K ρ H' ds vs
  | [], _, .nil, _ => .nil
  | _ :: _, _, .cons h t, l => by
    have l' : (_ && _) = true := l
    rw [Bool.and_eq_true] at l'
    exact .cons (RepV.back p h l'.1) (RepL.back p t l'.2)
end
end
/-- what a def leaves that nobody can reach is forgotten -/
def Exc.lt (n : Nat) (x : Exc) : Bool := x.fs.all fun p => p.2.lt n
open Classical in
noncomputable def trunc (h : IH) : R D → R D
  | .ok d h' => if d.lt h.length = true ∧ h'.take h.length = h then .ok d h else .ok d h'
  | .exc x h' => if x.lt h.length = true ∧ h'.take h.length = h then .exc x h else .exc x h'
  | .stuck => .stuck
section
variable {K : PySem.W.Frag} {mg : Str → Option Value} {W : WX} {ρ ρ' : Rho} {σ : L2.St} {H H' : Hp} {ih ih' : IH}
theorem Ext.short (x : Ext ρ H ρ' H') : Ext ρ H ρ H' := ⟨List.prefix_refl _, fun _ z => .inl z, x.keep, x.tups, x.frzs, x.xds⟩
theorem RepF.back (p : ρ.as <+: ρ'.as) : ∀ {fs : List (Str × D)} {vs : List (Str × V)}, RepF K ρ' H' fs vs → (fs.all fun p => p.2.lt ρ.as.length) = true → RepF K ρ H' fs vs
  | _, _, .nil, _ => .nil
  | _, _, .cons r t, l => by
    rw [List.all_cons, Bool.and_eq_true] at l
    exact .cons (r.back p l.1) (RepF.back p t l.2)
theorem RepF.lt : ∀ {fs : List (Str × D)} {vs : List (Str × V)}, RepF K ρ H fs vs → (fs.all fun p => p.2.lt ρ.as.length) = true
  | _, _, .nil => rfl
  | _, _, .cons r t => by
    rw [List.all_cons, Bool.and_eq_true]
    exact ⟨r.lt, RepF.lt t⟩
theorem RepK.back (p : ρ.as <+: ρ'.as) : ∀ {fs : List (L2.Key × D)} {vs : List (L2.Key × V)}, RepK K ρ' H' fs vs → (fs.all fun p => p.2.lt ρ.as.length) = true → RepK K ρ H' fs vs
  | _, _, .nil, _ => .nil
  | _, _, .cons r t, l => by
    rw [List.all_cons, Bool.and_eq_true] at l
    exact .cons (r.back p l.1) (RepK.back p t l.2)
theorem RepK.lt : ∀ {fs : List (L2.Key × D)} {vs : List (L2.Key × V)}, RepK K ρ H fs vs → (fs.all fun p => p.2.lt ρ.as.length) = true
  | _, _, .nil => rfl
  | _, _, .cons r t => by
    rw [List.all_cons, Bool.and_eq_true]
    exact ⟨r.lt, RepK.lt t⟩
theorem RepT.back (p : ρ.as <+: ρ'.as) : ∀ {fs : List (List Int × D)} {vs : List (List Int × Addr × Value)}, RepT K ρ' H' fs vs → (fs.all fun p => p.2.lt ρ.as.length) = true → RepT K ρ H' fs vs
  | _, _, .nil, _ => .nil
  | _, _, .cons a r u t, l => by
    rw [List.all_cons, Bool.and_eq_true] at l
    exact .cons a (r.back p l.1) u (RepT.back p t l.2)
theorem RepT.lt : ∀ {fs : List (List Int × D)} {vs : List (List Int × Addr × Value)}, RepT K ρ H fs vs → (fs.all fun p => p.2.lt ρ.as.length) = true
  | _, _, .nil => rfl
  | _, _, .cons _ r _ t => by
    rw [List.all_cons, Bool.and_eq_true]
    exact ⟨r.lt, RepT.lt t⟩
theorem RelH.short (r : RelH K ρ ih H) (x : Ext ρ H ρ' H') (r' : RelH K ρ' ih' H') (e : ih'.take ih.length = ih) : RelH K ρ ih H' := by
  refine ⟨r.len, r.nd, fun n a o h1 h2 => ?_⟩
  have hn : n < ih.length := (List.getElem?_eq_some_iff.mp h2).1
  have h2' : ih'[n]? = some o := by
    rw [← e, List.getElem?_take] at h2
    simpa [hn] using h2
  have q' := r'.obj n a o (x.get h1) h2'
  have q := r.obj n a o h1 h2
  cases o with
  | lst ds =>
    obtain ⟨vs, e1, r1⟩ := q'
    obtain ⟨us, _, r2⟩ := q
    exact ⟨vs, e1, r1.back x.pre r2.lt⟩
  | dik kvs =>
    obtain ⟨m, e1, r1⟩ := q'
    obtain ⟨_, _, r2⟩ := q
    exact ⟨m, e1, r1.back x.pre r2.lt⟩
  | dit kvs =>
    obtain ⟨ob, m, e1, t1, r1⟩ := q'
    obtain ⟨_, _, _, _, r2⟩ := q
    exact ⟨ob, m, e1, t1, r1.back x.pre r2.lt⟩
  | ins c fs =>
    obtain ⟨dx, vs, e1, r1⟩ := q'
    obtain ⟨_, us, _, r2⟩ := q
    exact ⟨dx, vs, e1, r1.back x.pre r2.lt⟩
open Classical in
theorem trunc_post {Q : VK} (rl : RelH K ρ ih H) : ∀ {r : R D}, PostE K mg W ρ σ H Q (trunc ih r) → PostE K mg W ρ σ H Q r
  | .ok d h', post => fun ρ' v H' x r' rv => by
    have post : PostE K mg W ρ σ H Q (if d.lt ih.length = true ∧ h'.take ih.length = ih then .ok d ih else .ok d h') := post
    split at post
    · rename_i c
      exact post ρ v H' x.short (rl.short x r' c.2) (rv.back x.pre (by rw [rl.len]; exact c.1))
    · exact post ρ' v H' x r' rv
  | .exc y h', post => fun ρ' cls od H' x r' rx => by
    have post : PostE K mg W ρ σ H Q (if y.lt ih.length = true ∧ h'.take ih.length = ih then .exc y ih else .exc y h') := post
    split at post
    · rename_i c
      refine post ρ cls od H' x.short (rl.short x r' c.2) ?_
      obtain ⟨d, vs, e2, e3, e4, e5⟩ := rx
      exact ⟨d, vs, e2, e3, e4, e5.back x.pre (by rw [rl.len]; exact c.1)⟩
    · exact post ρ' cls od H' x r' rx
  | .stuck, post => post
end

/-! ### defs -/
abbrev MF := List D → IH → R D
/-- a def's promise -/
def spF (K : PySem.W.Frag) (mg : Str → Option Value) (n : Nat) (F : MF) : Sp := fun vs H Q E => vs.length = n ∧ ∃ ρ ds ih, RelH K ρ ih H ∧ RepL K ρ H ds vs ∧ PostE K mg (fun cls od _ H => E cls od H) ρ [] H Q (F ds ih)
theorem PostE.slot {K : PySem.W.Frag} {mg : Str → Option Value} {E : XK} {ρ : Rho} {σ σ' : L2.St} {H : Hp} {Q : VK} : ∀ {r : R D}, PostE K mg (fun cls od _ H => E cls od H) ρ σ H Q r → PostE K mg (fun cls od _ H => E cls od H) ρ σ' H Q r
  | .ok _ _, h => h
  | .exc _ _, h => h
  | .stuck, h => h
/-- the def named x does F, for n arguments, in k levels -/
structure FS (P : Program) (w : World) (K : PySem.W.Frag) (mg : Str → Option Value) (base : Heap) (x : Str) (k n : Nat) (F : MF) : Prop where
  ex : ∃ (f : Addr) (fd : FuncData) (ps : List Str), mg x = some (.ref f) ∧ PySem.W.keepIn K (.ref f) = true ∧ Binds K fd ps [] ∧ FnOk P w K mg base (L2.CX P w) k f fd ps (spF K mg n F)
def callM (F : MF) (ms : MA) : ME := fun env h => (ms env h).bind fun ds h => F ds h
section
variable {xp : Option XP} {X : Cx} {e : Expr} {es : List Expr} {x : Str} {k j n : Nat} {F : MF} {ms : MA} {p pos : Pos}
theorem s_call (f : FS X.prog X.w X.K X.mg X.base x k n F) (hr : Room j X.A) (hk : k ≤ j) (hg : Gl X x) (hl : (e :: es).length = n) (A : SA xp X (e :: es) ms)
    (hdb : (x == ("__debug__" : Str)) = false := by decide) (he : starEach (e :: es) X.env = (false, eval e X.env) :: starEach es X.env := by rfl) (hpl : (backTo pos (starEach es X.env)).any (·.1) = false := by rfl)
    (hml : ∀ env h ds h', ms env h = .ok ds h' → ds.length = (e :: es).length) : SE xp X (.Call (.Name x p) (e :: es) [] pos) (callM F ms) := fun W tk => by
  obtain ⟨ta, pa, ha⟩ := A W tk
  obtain ⟨fa, fd, ps, hm, hkp, hb, hF⟩ := f.ex
  refine ⟨_, pe_callS hF (hr.mono hk) hg hm hkp hb (fun σ => passAt tk σ) pa hdb he hpl, fun ρ env ih σ H Q rl post => ?_⟩
  have post : PostE X.K X.mg W ρ σ H Q ((ms env ih).bind fun ds h => F ds h) := post
  have hml := hml env ih
  revert post
  cases q : ms env ih with
  | ok ds h1 =>
    intro post
    refine ha ρ env ih σ H _ rl ?_
    rw [q]
    intro ρ1 vs H1 e1 r1 p1
    refine ⟨by rw [← p1.length, hml ds h1 q]; exact hl, ρ1, ds, h1, r1, p1, ?_⟩
    have post : PostE X.K X.mg W ρ1 σ H1 Q (F ds h1) := PostE.ext post e1
    revert post
    cases F ds h1 with
    | ok d h => exact fun post => post
    | exc x h => exact fun post => post
    | stuck => exact fun post => post
  | exc x h =>
    intro post
    refine ha ρ env ih σ H _ rl ?_
    rw [q]
    exact post
  | stuck => exact fun post => post.elim
end

/-! ### statements -/
section
variable {xp : Option XP} {X : Cx} {e : Expr} {st : Stmt} {rest a b : List Stmt} {ma : ME} {mt : MT} {m m1 m2 : MS} {pos : Pos}
def seqM (m1 m2 : MS) : MS := fun env h => match m1 env h with
  | .nx e h => m2 e h
  | .rt d h => .rt d h
  | .bk e h => .bk e h
  | .ct e h => .ct e h
  | .exc x e h => .exc x e h
  | .stuck => .stuck
def nextM : MS := fun env h => .nx env h
def brkM : MS := fun env h => .bk env h
def contM : MS := fun env h => .ct env h
theorem ss_nil : SSs xp X [] nextM := fun W tk => ⟨_, pss_nil, fun ρ env ih σ H N rl post => post ρ σ H .refl rl⟩
theorem ss_one (A : SS xp X st m) : SSs xp X [st] m := fun W tk => by
  obtain ⟨ta, pa, ha⟩ := A W tk
  exact ⟨_, pss_one pa, ha⟩
theorem ss_cons (A : SS xp X st m1) (B : SSs xp X rest m2) : SSs xp X (st :: rest) (seqM m1 m2) := fun W tk => by
  obtain ⟨ta, pa, ha⟩ := A W tk
  obtain ⟨tb, pb, hb⟩ := B W tk
  refine ⟨_, pss_cons pa pb, fun ρ env ih σ H N rl post => ?_⟩
  show ta { N with nx := tb N } σ H
  refine ha _ _ _ _ _ _ rl ?_
  revert post
  unfold seqM
  cases m1 env ih with
  | nx e1 h1 => exact fun post ρ1 σ1 H1 x1 r1 => hb _ _ _ _ _ _ r1 (PostS.ext post x1)
  | rt d h => exact fun post => post
  | bk e h => exact fun post => post
  | ct e h => exact fun post => post
  | exc x e h => exact fun post => post
  | stuck => exact fun post => post
theorem st_break : SS xp X (.Break pos) brkM := fun W tk => ⟨_, ps_break, fun ρ env ih σ H N rl post => post ρ σ H .refl rl⟩
def exprM (ma : ME) : MS := fun env h => (ma env h).thenS env fun _ h => .nx env h
def retM (ma : ME) : MS := fun env h => (ma env h).thenS env fun d h => .rt d h
theorem st_expr (A : SE xp X e ma) (hs : swapsWith e none pos.line X.env = pure false := by rfl) : SS xp X (.Expr e pos) (exprM ma) := fun W tk => by
  obtain ⟨ta, pa, ha⟩ := A W tk
  refine ⟨_, ps_expr pa hs, fun ρ env ih σ H N rl post => ?_⟩
  exact fstE (ta := ta) ha rl (lkS (N := N) rl) post fun ρ1 d h1 v H1 e1 r1 p1 post => post ρ1 σ H1 .refl (rl.next e1 r1)
theorem st_ret (A : SE xp X e ma) : SS xp X (.Return (some e) pos) (retM ma) := fun W tk => by
  obtain ⟨ta, pa, ha⟩ := A W tk
  refine ⟨_, ps_ret pa, fun ρ env ih σ H N rl post => ?_⟩
  exact fstE (ta := ta) ha rl (lkS (N := N) rl) post fun ρ1 d h1 v H1 e1 r1 p1 post => post ρ1 v H1 .refl r1 p1
def retNM : MS := fun _ h => .rt .non h
def ifM (mt : MT) (m1 m2 : MS) : MS := fun env h => (mt env h).thenS env fun b h => if b = true then m1 env h else m2 env h
theorem st_if {c : Expr} (C : ST xp X c mt) (A : SSs xp X a m1) (B : SSs xp X b m2) : SS xp X (.If c a b pos) (ifM mt m1 m2) := fun W tk => by
  obtain ⟨tc, pc, hc⟩ := C W tk
  obtain ⟨ta, pa, ha⟩ := A W tk
  obtain ⟨tb, pb, hb⟩ := B W tk
  refine ⟨_, ps_if pc pa pb, fun ρ env ih σ H N rl post => ?_⟩
  refine fstT (ta := tc) hc rl (lkS (N := N) rl) post fun ρ1 b h1 H1 e1 r1 post => ?_
  cases b with
  | true => exact ha _ _ _ _ _ _ (rl.next e1 r1) post
  | false => exact hb _ _ _ _ _ _ (rl.next e1 r1) post
/-! assignments -/
/-- a target of names: what it makes of the slots -/
abbrev MG := D → Ev → Option Ev
def SG (xp : Option XP) (X : Cx) (tg : Expr) (g : MG) : Prop := ∃ t, PG X tg t ∧ ∀ ρ env ih σ H Q d v env', Rel X.K xp ρ env ih σ H → RepV X.K ρ H d v → g d env = some env' → (∀ σ', Rel X.K xp ρ env' ih σ' H → Q σ' H) → t v σ H Q
def gnameM (i : Nat) : MG := fun d env => some (env.set i (some d))
theorem sg_name {i : Nat} {x : Str} (h : PG X (.Name x pos) (gName i)) : SG xp X (.Name x pos) (gnameM i) := ⟨_, h, fun ρ env ih σ H Q d v env' rl rv e q => by
  cases e
  exact q _ (rl.set i rv)⟩
abbrev MGs := List D → Ev → Option Ev
def SGs (xp : Option XP) (X : Cx) (tgs : List Expr) (g : MGs) : Prop := ∃ t, PGs X tgs t ∧ ∀ ρ env ih σ H Q ds vs env', Rel X.K xp ρ env ih σ H → RepL X.K ρ H ds vs → g ds env = some env' → (∀ σ', Rel X.K xp ρ env' ih σ' H → Q σ' H) → t vs σ H Q
def gnilM : MGs := fun ds env => match ds with
  | [] => some env
  | _ => none
def gconsM (g : MG) (gs : MGs) : MGs := fun ds env => match ds with
  | d :: ds => (g d env).bind fun env => gs ds env
  | _ => none
theorem sgs_nil : SGs xp X [] gnilM := ⟨_, pgs_nil, fun ρ env ih σ H Q ds vs env' rl rv e q => by
  cases rv with
  | nil => cases e; exact ⟨rfl, q σ rl⟩
  | cons _ _ => cases e⟩
end
end Z
/-! Z6: assignments, loops. -/
namespace Z
open PySem PySem.Spec PyProof.Rows L2
section
variable {xp : Option XP} {X : Cx} {e : Expr} {st : Stmt} {rest a b : List Stmt} {ma : ME} {mt : MT} {m m1 m2 : MS} {pos : Pos}
theorem sgs_cons {t : Expr} {ts : List Expr} {g : MG} {gs : MGs} (A : SG xp X t g) (B : SGs xp X ts gs) (hs : (assignEach (t :: ts) X.env).map (·.2) = assign t X.env :: (assignEach ts X.env).map (·.2) := by rfl) : SGs xp X (t :: ts) (gconsM g gs) := by
  obtain ⟨ta, pa, ha⟩ := A
  obtain ⟨tb, pb, hb⟩ := B
  refine ⟨_, pgs_cons pa pb hs, fun ρ env ih σ H Q ds vs env' rl rv e q => ?_⟩
  cases rv with
  | nil => cases e
  | cons r t =>
    obtain ⟨env1, e1, e2⟩ := Option.bind_eq_some_iff.mp e
    exact ⟨_, _, rfl, ha ρ env ih σ H _ _ _ env1 rl r e1 fun σ1 r1 => hb ρ env1 ih σ1 H Q _ _ env' r1 t e2 q⟩
def gtupM (n : Nat) (gs : MGs) : MG := fun d env => match d with
  | .tup ds => if ds.length = n then gs ds env else none
  | _ => none
theorem sg_tup {es : List Expr} {k n : Nat} {gs : MGs} (hc : X.calm = true) (h : SGs xp X es gs) (hn : (assignEach es X.env).length = n := by rfl) (hst : (assignEach es X.env).findIdx? (·.1) = none := by rfl) : SG xp X (.Tuple es k pos) (gtupM n gs) := by
  obtain ⟨ta, pa, ha⟩ := h
  refine ⟨_, pg_tup hc pa hn hst, fun ρ env ih σ H Q d v env' rl rv e q => ?_⟩
  cases rv with
  | tup h1 h2 =>
    have e : (if _ then _ else _) = some env' := e
    split at e
    · rename_i c
      exact ⟨_, _, rfl, h1, by rw [← h2.length]; exact c, ha ρ env ih σ H Q _ _ env' rl h2 e q⟩
    · cases e
  | _ => cases e
/-- name = e -/
def setM (i : Nat) (ma : ME) : MS := fun env h => (ma env h).thenS env fun d h => .nx (env.set i (some d)) h
theorem st_set {i : Nat} {x : Str} {pos' : Pos} (hN : X.N.Nodup) (hi : X.N[i]? = some x) (hx : Loc X.env.scope x) (A : SE xp X e ma) (hs : swapsWith e (some (.Name x pos')) pos.line X.env = pure false := by rfl)
    (hf : X.fn x = true ∨ X.env.scope.names.lookup x = some .local := by first | exact .inl rfl | exact .inr rfl | assumption) : SS xp X (.Assign [.Name x pos'] e pos) (setM i ma) := fun W tk => by
  obtain ⟨ta, pa, ha⟩ := A W tk
  refine ⟨_, ps_set (i := i) hN hi hx pa hs hf, fun ρ env ih σ H N rl post => ?_⟩
  exact fstE (ta := ta) ha rl (lkS (N := N) rl) post fun ρ1 d h1 v H1 e1 r1 p1 post => post ρ1 _ H1 .refl ((rl.next e1 r1).set i p1)
/-- target = e -/
def asgM (g : MG) (ma : ME) : MS := fun env h => (ma env h).thenS env fun d h => match g d env with
  | some env => .nx env h
  | none => .stuck
theorem st_asg {tg : Expr} {g : MG} (A : SE xp X e ma) (G : SG xp X tg g) (hs : swapsWithSole [tg] e pos.line X.env = pure false := by rfl) (hw : swappedStores [tg] e X.env = pure none := by rfl)
    (h1 : (assignEach [tg] X.env).map (·.2) = [assign tg X.env] := by rfl) : SS xp X (.Assign [tg] e pos) (asgM g ma) := fun W tk => by
  obtain ⟨ta, pa, ha⟩ := A W tk
  obtain ⟨tg, pg, hg⟩ := G
  refine ⟨_, ps_asg pa pg hs hw h1, fun ρ env ih σ H N rl post => ?_⟩
  refine fstE (ta := ta) ha rl (lkS (N := N) rl) post fun ρ1 d h1 v H1 e1 r1 p1 post => ?_
  split at post
  · rename_i env' q
    exact hg ρ1 env h1 σ H1 _ d v env' (rl.next e1 r1) p1 q fun σ' r' => post ρ1 σ' H1 .refl r'
  · exact post.elim
/-- a, b = x, y -/
def parM (i j : Nat) (ms : MA) : MS := fun env h => (ms env h).thenS env fun ds h => match ds with
  | [d, e] => .nx ((env.set i (some d)).set j (some e)) h
  | _ => .stuck
theorem st_par {i j : Nat} {x y : Str} {a b : Expr} {ms : MA} {px py pt : Pos} {kt k2 pt2} (hc : X.calm = true) (hN : X.N.Nodup) (hi : X.N[i]? = some x) (hj : X.N[j]? = some y) (hij : i ≠ j)
    (hx : X.env.scope.names.lookup x = some .local) (hy : X.env.scope.names.lookup y = some .local) (A : SA xp X [a, b] ms)
    (hw : swappedStores [.Tuple [.Name x px, .Name y py] kt pt] (.Tuple [a, b] k2 pt2) X.env = pure (some [x, y]))
    (hs : swapsWithSole [.Tuple [.Name x px, .Name y py] kt pt] (.Tuple [a, b] k2 pt2) pos.line X.env = pure false := by rfl) :
    SS xp X (.Assign [.Tuple [.Name x px, .Name y py] kt pt] (.Tuple [a, b] k2 pt2) pos) (parM i j ms) := fun W tk => by
  obtain ⟨ta, pa, ha⟩ := A W tk
  refine ⟨_, ps_par hc hN hi hj hij hx hy pa hw hs, fun ρ env ih σ H N rl post => ?_⟩
  refine fstA (ta := ta) ha rl (lkS (N := N) rl) post fun ρ1 ds h1 vs H1 e1 r1 p1 post => ?_
  split at post
  · cases p1 with
    | cons q1 t =>
      cases t with
      | cons q2 t =>
        cases t
        exact ⟨_, _, rfl, post ρ1 _ H1 .refl (((rl.next e1 r1).set i q1).set j q2)⟩
  · exact post.elim
/-- o[i] = e -/
abbrev MP := D → D → D → IH → Option IH
def SP' (X : Cx) (m : MP) : Prop := ∃ t, PSet X t ∧ ∀ ρ ih ih' H Q o i d x y v, RelH X.K ρ ih H → RepV X.K ρ H o x → RepV X.K ρ H i y → RepV X.K ρ H d v → m o i d ih = some ih' → (∀ H', Ext ρ H ρ H' → RelH X.K ρ ih' H' → Q H') → t x y v H Q
def putM (p : MP) (mo mi ma : ME) : MS := fun env h => (ma env h).thenS env fun d h => (mo env h).thenS env fun o h => (mi env h).thenS env fun i h => match p o i d h with
  | some h => .nx env h
  | none => .stuck
theorem st_put {o i : Expr} {mo mi : ME} {p : MP} {pos' : Pos} (P : SP' X p) (O : SE xp X o mo) (I : SE xp X i mi) (A : SE xp X e ma)
    (ha : ∀ v, assign (.Subscript o i pos') X.env v = (do
      let ov ← holding [v] (eval o X.env)
      let iv ← holding [v, ov] (eval i X.env)
      standAt pos'
      holding [v, ov, iv] (setItem ov iv v)
      release [v, ov, iv] []) := by intro _; rfl) (hs : swapsWithSole [.Subscript o i pos'] e pos.line X.env = pure false := by rfl) (hw : swappedStores [.Subscript o i pos'] e X.env = pure none := by rfl)
    (h1 : (assignEach [.Subscript o i pos'] X.env).map (·.2) = [assign (.Subscript o i pos') X.env] := by rfl) : SS xp X (.Assign [.Subscript o i pos'] e pos) (putM p mo mi ma) := fun W tk => by
  obtain ⟨ta, pa, ha'⟩ := A W tk
  obtain ⟨to, po, ho⟩ := O W tk
  obtain ⟨ti, pi, hi⟩ := I W tk
  obtain ⟨t, pt, ht⟩ := P
  refine ⟨_, ps_asg pa (pg_sub po pi pt ha) hs hw h1, fun ρ env ih σ H N rl post => ?_⟩
  refine fstE (ta := ta) ha' rl (lkS (N := N) rl) post fun ρ1 d h1 v H1 e1 r1 p1 post => ?_
  have rl1 := rl.next e1 r1
  refine fstE (ta := to) ho rl1 (lkS (N := N) rl1) post fun ρ2 o h2 x H2 e2 r2 p2 post => ?_
  have rl2 := rl1.next e2 r2
  refine fstE (ta := ti) hi rl2 (lkS (N := N) rl2) post fun ρ3 i h3 y H3 e3 r3 p3 post => ?_
  split at post
  · rename_i h4 q
    exact ht ρ3 h3 h4 H3 _ o i d x y v r3 (p2.ext e3) p3 (p1.ext (e2.trans e3)) q fun H' x' r' => post ρ3 σ H' x' ((rl2.next e3 r3).next x' r')
  · exact post.elim
/-- a list's item -/
def setL : MP := fun o i d h => match o, i with
  | .ref n, .int k => match h[n]? with
    | some (.lst xs) => (ixN xs.length k).map fun j => h.set n (.lst (xs.set j d))
    | _ => none
  | _, _ => none
theorem p_list : SP' X setL := ⟨_, set_list, fun ρ ih ih' H Q o i d x y v rl ro ri rd e q => by
  unfold setL at e
  split at e
  · split at e
    · rename_i n k _ xs hn
      obtain ⟨j, e1, e2⟩ := Option.map_eq_some_iff.mp e
      subst e2
      cases ro with
      | @ref _ p hp =>
        cases ri
        obtain ⟨vs, hv, rv⟩ := rl.lst hp hn
        obtain ⟨x', rl'⟩ := rewrite rl hp hv (rv.set rd j)
        exact ⟨p, vs, k, j, rfl, rfl, hv, by rw [← rv.length]; exact e1, q _ x' rl'⟩
    · cases e
  · cases e⟩
/-! ### while -/
/-! ### for -/
inductive Src where
  | snap (ds : List D)
  | live (view : IH → Option (List D))
structure ItS (K : PySem.W.Frag) (J : It) (ρ0 : Rho) (H0 : Hp) (ds : List D) : Prop where
  go : ∀ i d ρ H ih, Ext ρ0 H0 ρ H → RelH K ρ ih H → ds[i]? = some d → J.go i H ∧ ∀ x H', J.yld i H x H' → Ext ρ H ρ H' ∧ RelH K ρ ih H' ∧ RepV K ρ H' d x
  stop : ∀ ρ H, Ext ρ0 H0 ρ H → J.stop ds.length H
structure ItV (K : PySem.W.Frag) (J : It) (ρ0 : Rho) (H0 : Hp) (view : IH → Option (List D)) : Prop where
  go : ∀ i d ρ H ih ds, Ext ρ0 H0 ρ H → RelH K ρ ih H → view ih = some ds → ds[i]? = some d → J.go i H ∧ ∀ x H', J.yld i H x H' → Ext ρ H ρ H' ∧ RelH K ρ ih H' ∧ RepV K ρ H' d x
  stop : ∀ i ρ H ih ds, Ext ρ0 H0 ρ H → RelH K ρ ih H → view ih = some ds → ds[i]? = none → J.stop i H
def ItOk (K : PySem.W.Frag) (J : It) (ρ : Rho) (H : Hp) : Src → Prop
  | .snap ds => ItS K J ρ H ds
  | .live v => ItV K J ρ H v
abbrev MI := Ev → IH → R Src
def PostI (K : PySem.W.Frag) (mg : Str → Option Value) (W : WX) (ρ : Rho) (σ : L2.St) (H : Hp) (Q : It → Hp → Prop) : R Src → Prop
  | .ok s ih => ∀ ρ' J H', Ext ρ H ρ' H' → RelH K ρ' ih H' → ItOk K J ρ' H' s → Q J H'
  | .exc x ih => ∀ ρ' cls od H', Ext ρ H ρ' H' → RelH K ρ' ih H' → RepX K mg ρ' H' x cls od → W cls od σ H'
  | .stuck => False
def SI (xp : Option XP) (X : Cx) (tg iter : Expr) (m : MI) : Prop := ∀ W, Takes X W → ∃ t, PI X tg iter t ∧ ∀ ρ env ih σ H Q, Rel X.K xp ρ env ih σ H → PostI X.K X.mg W ρ σ H Q (m env ih) → t σ H Q
theorem PostI.ext {K : PySem.W.Frag} {mg : Str → Option Value} {W : WX} {ρ ρ' : Rho} {σ : L2.St} {H H' : Hp} {Q : It → Hp → Prop} : ∀ {r : R Src}, PostI K mg W ρ σ H Q r → Ext ρ H ρ' H' → PostI K mg W ρ' σ H' Q r
  | .ok _ _, h, x => fun _ v _ y => h _ v _ (x.trans y)
  | .exc _ _, h, x => fun _ _ _ _ y => h _ _ _ _ (x.trans y)
  | .stuck, h, _ => h
theorem lkI {K : PySem.W.Frag} {mg : Str → Option Value} {W : WX} {ρ : Rho} {σ : L2.St} {H : Hp} {Q : It → Hp → Prop} : Lk K mg W σ ρ H (fun ρ H r => PostI K mg W ρ σ H Q r) .exc .stuck := ⟨fun _ _ _ _ _ h x => h.ext x, fun _ _ h => h, fun h => h⟩
/-- a turn -/
def turnM (g : MG) (mb : MS) (d : D) (env : Ev) (h : IH) (k : Ev → IH → RS) : RS := match g d env with
  | none => .stuck
  | some e => match mb e h with
    | .nx e h => k e h
    | .ct e h => k e h
    | .bk e h => .nx e h
    | .rt d h => .rt d h
    | .exc x e h => .exc x e h
    | .stuck => .stuck
def forS (g : MG) (mb : MS) : List D → MS
  | [], env, h => .nx env h
  | d :: ds, env, h => turnM g mb d env h (forS g mb ds)
def forV (g : MG) (mb : MS) (view : IH → Option (List D)) : Nat → Nat → MS
  | 0, _, _, _ => .stuck
  | n + 1, i, env, h => match view h with
    | none => .stuck
    | some ds => match ds[i]? with
      | none => .nx env h
      | some d => turnM g mb d env h (forV g mb view n (i + 1))
/-- the turns that a walk over what changes may take -/
def LOOP : Nat := 2 ^ 64
def forM (mi : MI) (g : MG) (mb : MS) : MS := fun env h => (mi env h).thenS env fun s h => match s with
  | .snap ds => forS g mb ds env h
  | .live v => forV g mb v LOOP 0 env h
/-- a turn, in the reading -/
theorem turn_ok {W : WX} {tg : TG} {tb : TS} {g : MG} {mb : MS} {ρ : Rho} {env : Ev} {ih : IH} {σ : L2.St} {H : Hp} {N : Ends} {d : D} {v : V} {k : Ev → IH → RS} {M : L2.St → Hp → Prop}
    (hg : ∀ ρ env ih σ H Q d v env', Rel X.K xp ρ env ih σ H → RepV X.K ρ H d v → g d env = some env' → (∀ σ', Rel X.K xp ρ env' ih σ' H → Q σ' H) → tg v σ H Q)
    (hb : ∀ ρ env ih σ H N, Rel X.K xp ρ env ih σ H → PostS X.K X.mg W xp ρ H N (mb env ih) → tb N σ H)
    (rl : Rel X.K xp ρ env ih σ H) (rv : RepV X.K ρ H d v) (post : PostS X.K X.mg W xp ρ H N (turnM g mb d env ih k))
    (hM : ∀ ρ' e h σ' H', Ext ρ H ρ' H' → Rel X.K xp ρ' e h σ' H' → PostS X.K X.mg W xp ρ' H' N (k e h) → M σ' H') :
    tg v σ H fun σ2 H2 => tb { N with nx := M, ct := M, bk := N.nx } σ2 H2 := by
  unfold turnM at post
  split at post
  · exact post.elim
  · rename_i e q
    refine hg ρ env ih σ H _ d v e rl rv q fun σ1 r1 => hb ρ e ih σ1 H _ r1 ?_
    revert post
    cases mb e ih with
    | nx e h => exact fun post ρ2 σ2 H2 x2 r2 => hM ρ2 e h σ2 H2 x2 r2 (PostS.ext post x2)
    | ct e h => exact fun post ρ2 σ2 H2 x2 r2 => hM ρ2 e h σ2 H2 x2 r2 (PostS.ext post x2)
    | bk e h => exact fun post => post
    | rt d h => exact fun post => post
    | exc x e h => exact fun post => post
    | stuck => exact fun post => post
theorem st_for {tg iter : Expr} {mi : MI} {g : MG} {mb : MS} (hp : PassesOwn (model X.prog X.w) X.A X.env X.xe) (hc : X.calm = true) (I : SI xp X tg iter mi) (G : SG xp X tg g) (B : SSs xp X b mb)
    (hs : ∀ x, foldedSetIterable iter X.env x = pure x := by intro _; rfl) : SS xp X (.For tg iter b [] pos) (forM mi g mb) := fun W tk => by
  obtain ⟨ti, pi, hi⟩ := I W tk
  obtain ⟨tg, pg, hg⟩ := G
  obtain ⟨tb, pb, hb⟩ := B W tk
  refine ⟨_, ps_for hp hc pi pg pb hs, fun ρ env ih σ H N rl post => ?_⟩
  refine hi ρ env ih σ H _ rl ?_
  have post : PostS X.K X.mg W xp ρ H N ((mi env ih).thenS env fun s h => match s with
    | .snap ds => forS g mb ds env h
    | .live v => forV g mb v LOOP 0 env h) := post
  revert post
  cases mi env ih with
  | exc x h => exact fun post ρ' cls od H' x r q => post ρ' cls od σ H' x (rl.next x r) q
  | stuck => exact fun post => post
  | ok s h1 =>
    cases s with
    | snap ds =>
      intro post ρ1 J H1 x1 r1 (it : ItS X.K J ρ1 H1 ds)
      have rl1 := rl.next x1 r1
      have post1 : PostS X.K X.mg W xp ρ1 H1 N (forS g mb ds env h1) := PostS.ext post x1
      refine ⟨fun i m σ H => i + m = ds.length ∧ ∃ ρ env ih, Ext ρ1 H1 ρ H ∧ Rel X.K xp ρ env ih σ H ∧ PostS X.K X.mg W xp ρ H N (forS g mb (ds.drop i) env ih), ⟨ds.length, by omega, ρ1, env, h1, .refl, rl1, by simpa using post1⟩, ?_⟩
      rintro i m σ H ⟨hm, ρ, env, ih, x, rl, post⟩
      cases q : ds[i]? with
      | none =>
        have hi := List.getElem?_eq_none_iff.mp q
        have ei : i = ds.length := by omega
        subst ei
        rw [List.drop_length] at post
        exact .inl ⟨it.stop ρ H x, post ρ σ H .refl rl⟩
      | some d =>
        obtain ⟨hi, ed⟩ := List.getElem?_eq_some_iff.mp q
        have hd : ds.drop i = d :: ds.drop (i + 1) := by rw [List.drop_eq_getElem_cons hi, ed]
        rw [hd] at post
        obtain ⟨go, yl⟩ := it.go i d ρ H ih x rl.hp q
        refine .inr ⟨go, fun σ H => ∃ ρ env ih, Ext ρ1 H1 ρ H ∧ Rel X.K xp ρ env ih σ H ∧ PostS X.K X.mg W xp ρ H N (forS g mb (ds.drop (i + 1)) env ih), fun σ' H' h => ⟨m - 1, by omega, by omega, h⟩, fun v H' y => ?_⟩
        obtain ⟨x2, r2, rv⟩ := yl v H' y
        refine turn_ok (tg := tg) (tb := tb) hg hb (rl.next x2 r2) rv (PostS.ext post x2) fun ρ' e h σ' H'' x3 r3 post => ?_
        exact ⟨ρ', e, h, (x.trans x2).trans x3, r3, post⟩
    | live v =>
      intro post ρ1 J H1 x1 r1 (it : ItV X.K J ρ1 H1 v)
      have rl1 := rl.next x1 r1
      have post1 : PostS X.K X.mg W xp ρ1 H1 N (forV g mb v LOOP 0 env h1) := PostS.ext post x1
      refine ⟨fun i m σ H => ∃ ρ env ih, Ext ρ1 H1 ρ H ∧ Rel X.K xp ρ env ih σ H ∧ PostS X.K X.mg W xp ρ H N (forV g mb v m i env ih), ⟨LOOP, ρ1, env, h1, .refl, rl1, post1⟩, ?_⟩
      rintro i m σ H ⟨ρ, env, ih, x, rl, post⟩
      cases m with
      | zero => exact post.elim
      | succ m =>
        unfold forV at post
        cases q : v ih with
        | none => rw [q] at post; exact post.elim
        | some ds =>
          rw [q] at post
          dsimp only at post
          cases q2 : ds[i]? with
          | none =>
            rw [q2] at post
            exact .inl ⟨it.stop i ρ H ih ds x rl.hp q q2, post ρ σ H .refl rl⟩
          | some d =>
            rw [q2] at post
            obtain ⟨go, yl⟩ := it.go i d ρ H ih ds x rl.hp q q2
            refine .inr ⟨go, fun σ H => ∃ ρ env ih, Ext ρ1 H1 ρ H ∧ Rel X.K xp ρ env ih σ H ∧ PostS X.K X.mg W xp ρ H N (forV g mb v m (i + 1) env ih), fun σ' H' h => ⟨m, Nat.lt_succ_self _, h⟩, fun y H' yy => ?_⟩
            obtain ⟨x2, r2, rv⟩ := yl y H' yy
            refine turn_ok (tg := tg) (tb := tb) hg hb (rl.next x2 r2) rv (PostS.ext post x2) fun ρ' e h σ' H'' x3 r3 post => ?_
            exact ⟨ρ', e, h, (x.trans x2).trans x3, r3, post⟩
end
end Z
/-! Z6K: the keys of a dict (tuples of ints) walked. -/
namespace Z
open PySem PySem.Spec PyProof.Rows L2
section
variable {P : Program} {w : World} {K : PySem.W.Frag} {tg : Expr}
/-- the dict at a, of n keys; while it is walked no key comes anew -/
def ItD (a : Addr) (n : Nat) : It :=
  ⟨fun i H => i < n ∧ ∃ ob xs, H a = some (.ext (isO a ob)) ∧ TabT a ob xs ∧ xs.length = n,
    fun i H x H' => H' = H ∧ ∀ ob xs, H a = some (.ext (isO a ob)) → TabT a ob xs → xs.length = n → ∃ y, xs[i]? = some y ∧ x = .ref y.2.1,
    fun i H => n ≤ i ∧ ∃ ob xs, H a = some (.ext (isO a ob)) ∧ TabT a ob xs ∧ xs.length = n⟩
theorem ext_here {X : Cx} {pins : List (Addr × Obj)} {σ : L2.St} {H : Hp} {s : Shared} {a : Addr} {ob : Obj} (I : Inv X pins σ H s) (e : H a = some (.ext (isO a ob))) : s.heap.get? a = some ob := (show ObjOk X.prog X.w H s.heap a (.ext (isO a ob)) from I.hok a _ e).1
theorem tab_size (P : Program) (w : World) {a : Addr} {ob : Obj} {xs : List (List Int × Addr × Value)} (t : TabT a ob xs) : ∃ es, ob.data = .dict es xs.length ∧ es.size = xs.length ∧ ∀ (i : Nat) (x : List Int × Addr × Value), xs[i]? = some x → ∃ en : DictEntry, es[i]? = some en ∧ en.key = .ref x.2.1 ∧ en.val = x.2.2 := by
  obtain ⟨_, _, _, _, es, h1, h2⟩ := t
  have h3 : es.size = xs.length := by
    have := size_of_entries (h2 P w)
    rw [List.length_map] at this
    exact this
  refine ⟨es, h1, h3, fun i x hx => ?_⟩
  have e := entry_at (h2 P w) i
  rw [List.getElem?_map, hx] at e
  exact ⟨_, e, rfl, rfl⟩
theorem turn_keysD {a : Addr} {n : Nat} (it : Addr) : Turn P w K tg (ItD a n) [it] it (fun i h => h.IsKeyIter it a i n n) where
  mem := List.mem_singleton.mpr rfl
  obj := fun i h st b hb => by
    obtain rfl : b = it := List.mem_singleton.mp hb
    obtain ⟨oi, e, _, dd⟩ := st; exact ⟨oi, e, fun v z => by rw [dd] at z; cases z⟩
  keep := fun i h h' st k => st.at fun oi e => k it (List.mem_singleton.mpr rfl) oi e
  item := by
    intro X hP hw hK hc i pins s σ H E I hf st hg
    subst hP hw hK; obtain ⟨hi, ob, xs, he, t, hl⟩ := hg
    obtain ⟨f0, f1, f2, f3, f4, f5⟩ := hf it (List.mem_singleton.mpr rfl)
    obtain ⟨es, q1, q2, q3⟩ := tab_size X.prog X.w t
    obtain ⟨en, e1, e2, _⟩ := q3 i xs[i] (List.getElem?_eq_getElem (hl ▸ hi))
    have hob := ext_here I he
    rw [hl] at q1 q2
    refine next_key_item st hob q1 q2 e1 fun h' st' sb => ?_
    have I1 : Inv X pins σ H { s with heap := h' } := I.turned (t' := s.toks) (fun b ob hb e => (sb.2 b hb).trans e) f0 f1 f3 f4 f5
    obtain ⟨oi, e, c, dd⟩ := id st'
    exact ⟨en.key, rfl, go_of (s := { s with heap := h' }) e c dd (by decide) ⟨.ref xs[i].2.1, H, I1, e2, ⟨rfl, fun o2 x2 h2 t2 l2 => by
      have := ext_here I h2
      rw [hob] at this; cases this
      obtain ⟨es2, g1, g2, g3⟩ := tab_size X.prog X.w t2
      rw [q1] at g1; cases g1
      obtain ⟨en2, g4, g5, _⟩ := g3 i x2[i] (List.getElem?_eq_getElem (l2 ▸ hi))
      rw [e1] at g4; cases g4
      rw [e2] at g5
      have g6 := Value.ref.inj g5
      exact ⟨_, List.getElem?_eq_getElem (l2 ▸ hi), by rw [g6]⟩⟩, st', fun b hb => (hf b hb).1⟩⟩
  done := by
    intro X hP hw hK hc i pins s σ H E I hf st hg
    subst hP hw hK; obtain ⟨hi, ob, xs, he, t, hl⟩ := hg
    obtain ⟨f0, f1, f2, f3, f4, f5⟩ := hf it (List.mem_singleton.mpr rfl)
    obtain ⟨es, q1, q2, q3⟩ := tab_size X.prog X.w t
    rw [hl] at q1 q2
    exact next_key_end (I.ok.hd hc) st (ext_here I he) q1 q2 hi fun h' eb => ⟨rfl, I.turned (t' := s.toks) (fun b ob hb e => eb b ob hb e) f0 f1 f3 f4 f5⟩
  self := fun A i s Q E st h => wpAny_pyIter_keyiter st h
def iKeysD (td : TE) : TI := fun σ H R => td σ H fun x H1 => ∃ d ob xs, x = .ref d ∧ H1 d = some (.ext (isO d ob)) ∧ TabT d ob xs ∧ R (ItD d xs.length) H1
theorem pi_keysD {X : Cx} {e : Expr} {td : TE} (he : PE X e td) : PI X tg e (iKeysD td) := by
  refine ⟨fun pins s σ H R I h => ?_⟩
  refine thn (he.run pins s σ H _ I h) fun u s1 ⟨x, H1, I1, rx, d, ob, xs, ex, hd, t, q⟩ => ?_
  subst ex; obtain rfl : u = Value.ref d := rx
  obtain ⟨es, q1, q2, q3⟩ := tab_size X.prog X.w t
  refine iter_keys t.1 (ext_here I1 hd) t.2.2.1 q1 (pi_one (tk := s1.toks) I1 _ (turn_keysD _) ⟨_, Heap.get?_push_size _ rfl, rfl, ?_⟩ q)
  rw [q2] <;> rfl
end
/-- the keys, as long as there are n of them -/
def viewT (m n : Nat) : IH → Option (List D) := fun h => match h[m]? with
  | some (.dit kvs) => if kvs.length = n then some (kvs.map fun kv => .tup (kv.1.map .int)) else none
  | _ => none
theorem RepL.int's {K : PySem.W.Frag} {ρ : Rho} {H : Hp} : ∀ ns : List Int, RepL K ρ H (ns.map D.int) (ns.map V.int)
  | [] => .nil
  | i :: ns => .cons (.int i) (RepL.int's ns)
theorem RepT.len {K : PySem.W.Frag} {ρ : Rho} {H : Hp} : ∀ {ds : List (List Int × D)} {xs : List (List Int × Addr × Value)}, RepT K ρ H ds xs → ds.length = xs.length
  | _, _, .nil => rfl
  | _, _, .cons _ _ _ t => congrArg (· + 1) t.len
theorem RepT.at {K : PySem.W.Frag} {ρ : Rho} {H : Hp} : ∀ {ds : List (List Int × D)} {xs : List (List Int × Addr × Value)} {i : Nat} {kv : List Int × D}, RepT K ρ H ds xs → ds[i]? = some kv → ∃ x v, xs[i]? = some x ∧ x.1 = kv.1 ∧ SqT K H x.2.1 (kv.1.map V.int) ∧ RepV K ρ H kv.2 v ∧ RelV v x.2.2
  | _, _, 0, _, .cons h1 h2 h3 _, e => by cases e; exact ⟨_, _, rfl, rfl, h1, h2, h3⟩
  | _, _, i + 1, _, .cons _ _ _ t, e => t.at (i := i) e
  | _, _, 0, _, .nil, e => nomatch e
  | _, _, i + 1, _, .nil, e => nomatch e
theorem itd_ref {K : PySem.W.Frag} {ρ : Rho} {H : Hp} {m n : Nat} {a : Addr} (ha : ρ.as[m]? = some a) : ItV K (ItD a n) ρ H (viewT m n) where
  go := fun i d ρ' H' ih ds x rl ev e => by
    unfold viewT at ev
    split at ev
    · rename_i kvs hn
      split at ev
      · rename_i hl
        cases ev
        obtain ⟨ob, xs, h1, h2, h3⟩ := rl.obj m a _ (x.get ha) hn
        rw [List.getElem?_map] at e
        obtain ⟨kv, hkv, rfl⟩ := Option.map_eq_some_iff.mp e
        obtain ⟨y, v, e1, e2, e3, e4, e5⟩ := h3.at hkv
        have hi : i < kvs.length := (List.getElem?_eq_some_iff.mp hkv).1
        refine ⟨⟨by omega, ob, xs, h1, h2, by rw [← h3.len]; exact hl⟩, fun z H2 ⟨eH, hz⟩ => ?_⟩
        subst eH
        obtain ⟨y2, q1, q2⟩ := hz ob xs h1 h2 (by rw [← h3.len]; exact hl)
        rw [e1] at q1; cases q1
        rw [q2]
        exact ⟨.refl, rl, .tup e3 (RepL.int's _)⟩
      · cases ev
    · cases ev
  stop := fun i ρ' H' ih ds x rl ev e => by
    unfold viewT at ev
    split at ev
    · rename_i kvs hn
      split at ev
      · rename_i hl
        cases ev
        obtain ⟨ob, xs, h1, h2, h3⟩ := rl.obj m a _ (x.get ha) hn
        have := List.getElem?_eq_none_iff.mp e
        rw [List.length_map] at this
        exact ⟨by omega, ob, xs, h1, h2, by rw [← h3.len]; exact hl⟩
      · cases ev
    · cases ev
end Z
/-! Z7: what is walked; subscripts; built-in functions. -/
namespace Z
open PySem PySem.Spec PyProof.Rows L2
section
variable {xp : Option XP} {X : Cx} {e : Expr} {es : List Expr} {ma mb : ME} {ms : MA} {p pos : Pos} {tg : Expr}
/-! ### walks -/
/-- the items of a list | tuple -/
def srcOf (h : IH) : D → Option Src
  | .tup ds => some (.snap ds)
  | .fz ds => some (.snap ds)
  | .ref n => match h[n]? with
    | some (.lst _) => some (.live fun h => match h[n]? with
      | some (.lst ds) => some ds
      | _ => none)
    | some (.dit kvs) => some (.live (viewT n kvs.length))
    | _ => none
  | _ => none
def seqI (ma : ME) : MI := fun env h => (ma env h).bind fun d h => match srcOf h d with
  | some s => .ok s h
  | none => .stuck
theorem itl_fz {K : PySem.W.Frag} {ρ : Rho} {H : Hp} {a : Addr} {vs : List V} {ds : List D} (h1 : SqF K H a vs) (h2 : RepL K ρ H ds vs) : ItS K (Itl K a) ρ H ds where
  go := fun i d ρ' H' ih x rl e => by
    obtain ⟨v, e1, r1⟩ := h2.get e
    refine ⟨⟨vs, v, (x.sqF h1).sq, e1⟩, fun y H2 ⟨eH, hy⟩ => ?_⟩
    subst eH
    have q := hy vs (x.sqF h1).sq
    rw [e1] at q
    cases q
    exact ⟨.refl, rl, r1.ext x⟩
  stop := fun ρ' H' x => ⟨vs, (x.sqF h1).sq, by rw [h2.length]; exact Nat.le_refl _⟩
theorem itt_tup {K : PySem.W.Frag} {ρ : Rho} {H : Hp} {a : Addr} {vs : List V} {ds : List D} (h1 : SqT K H a vs) (h2 : RepL K ρ H ds vs) : ItS K (Itt K a) ρ H ds where
  go := fun i d ρ' H' ih x rl e => by
    obtain ⟨v, e1, r1⟩ := h2.get e
    refine ⟨⟨vs, v, x.sqT h1, e1⟩, fun y H2 ⟨eH, hy⟩ => ?_⟩
    subst eH
    have q := hy vs (x.sqT h1)
    rw [e1] at q
    cases q
    exact ⟨.refl, rl, r1.ext x⟩
  stop := fun ρ' H' x => ⟨vs, x.sqT h1, by rw [h2.length]; exact Nat.le_refl _⟩
theorem itl_ref {K : PySem.W.Frag} {ρ : Rho} {H : Hp} {n : Nat} {a : Addr} (ha : ρ.as[n]? = some a) : ItV K (Itl K a) ρ H (fun h => match h[n]? with
      | some (.lst ds) => some ds
      | _ => none) where
  go := fun i d ρ' H' ih ds x rl ev e => by
    split at ev
    · rename_i ds' hn
      cases ev
      obtain ⟨vs, hv, rv⟩ := rl.lst (x.get ha) hn
      obtain ⟨v, e1, r1⟩ := rv.get e
      refine ⟨⟨vs, v, SqL.of hv, e1⟩, fun y H2 ⟨eH, hy⟩ => ?_⟩
      subst eH
      have q := hy vs (SqL.of hv)
      rw [e1] at q
      cases q
      exact ⟨.refl, rl, r1⟩
    · cases ev
  stop := fun i ρ' H' ih ds x rl ev e => by
    split at ev
    · rename_i ds' hn
      cases ev
      obtain ⟨vs, hv, rv⟩ := rl.lst (x.get ha) hn
      exact ⟨vs, SqL.of hv, by rw [← rv.length]; exact List.getElem?_eq_none_iff.mp e⟩
    · cases ev
def iOr (t u : TI) : TI := fun σ H R => t σ H R ∨ u σ H R
theorem pi_or {iter : Expr} {t u : TI} (h : PI X tg iter t) (g : PI X tg iter u) : PI X tg iter (iOr t u) := ⟨fun pins s σ H R I q => q.elim (h.run pins s σ H R I) (g.run pins s σ H R I)⟩
theorem si_seq (A : SE xp X e ma) : SI xp X tg e (seqI ma) := fun W tk => by
  obtain ⟨ta, pa, ha⟩ := A W tk
  refine ⟨_, pi_or (pi_or (pi_list pa) (pi_tup pa)) (pi_keysD pa), fun ρ env ih σ H Q rl post => ?_⟩
  -- by what the value is
  have post : PostI X.K X.mg W ρ σ H Q ((ma env ih).bind fun d h => match srcOf h d with
    | some s => .ok s h
    | none => .stuck) := post
  revert post
  cases q : ma env ih with
  | exc x h => intro post; exact .inl (.inl (ha ρ env ih σ H _ rl (by rw [q]; exact post)))
  | stuck => exact fun post => post.elim
  | ok d h1 =>
    intro post
    cases hd : srcOf h1 d with
    | none => simp only [R.bind, R.bindG_ok, hd] at post; exact post.elim
    | some s =>
      simp only [R.bind, R.bindG_ok, hd] at post
      cases d with
      | tup ds =>
        cases hd
        refine .inl <| .inr (ha ρ env ih σ H _ rl (by
          rw [q]
          intro ρ1 v H1 x1 r1 p1
          cases p1 with
          | @tup a vs _ h1 h2 => exact ⟨a, rfl, ⟨vs, h1⟩, post ρ1 _ H1 x1 r1 (itt_tup h1 h2)⟩))
      | fz ds =>
        cases hd
        refine .inl <| .inl (ha ρ env ih σ H _ rl (by
          rw [q]
          intro ρ1 v H1 x1 r1 p1
          cases p1 with
          | @fz a vs _ h1 h2 => exact ⟨a, rfl, ⟨vs, h1.sq⟩, post ρ1 _ H1 x1 r1 (itl_fz h1 h2)⟩))
      | ref n =>
        have hd' : (match h1[n]? with
          | some (.lst _) => some (Src.live fun h => match h[n]? with
            | some (.lst ds) => some ds
            | _ => none)
          | some (.dit kvs) => some (Src.live (viewT n kvs.length))
          | _ => none) = some s := hd
        split at hd'
        · rename_i ds hn
          cases hd'
          refine .inl <| .inl (ha ρ env ih σ H _ rl (by
            rw [q]
            intro ρ1 v H1 x1 r1 p1
            cases p1 with
            | @ref _ a h1 =>
              obtain ⟨vs, hv, rv⟩ := r1.lst h1 hn
              exact ⟨a, rfl, ⟨vs, SqL.of hv⟩, post ρ1 _ H1 x1 r1 (itl_ref h1)⟩))
        · rename_i kvs hn
          cases hd'
          refine .inr (ha ρ env ih σ H _ rl (by
            rw [q]
            intro ρ1 v H1 x1 r1 p1
            cases p1 with
            | @ref _ a h1 =>
              obtain ⟨ob, xs, hv, tv, rv⟩ := r1.obj n a _ h1 hn
              refine ⟨a, ob, xs, rfl, hv, tv, ?_⟩
              have z := post ρ1 _ H1 x1 r1 (itd_ref h1)
              rw [rv.len] at z
              exact z))
        · cases hd'
      | _ => cases hd

/-! range -/
def rngD (lo : Int) (n : Nat) : List D := (List.range n).map fun (i : Nat) => D.int (lo + (i : Int))
theorem rngD_length {lo : Int} {n : Nat} : (rngD lo n).length = n := by simp [rngD]
theorem rngD_get {lo : Int} {n i : Nat} {d : D} (h : (rngD lo n)[i]? = some d) : i < n ∧ d = .int (lo + (i : Int)) := by
  unfold rngD at h
  rw [List.getElem?_map] at h
  obtain ⟨j, h1, h2⟩ := Option.map_eq_some_iff.mp h
  obtain ⟨h3, h4⟩ := List.getElem?_eq_some_iff.mp h1
  rw [List.getElem_range] at h4
  subst h4
  exact ⟨by simpa using h3, h2.symm⟩
theorem itr_ok {K : PySem.W.Frag} {ρ : Rho} {H : Hp} {lo : Int} {n : Nat} : ItS K (Itr lo n) ρ H (rngD lo n) where
  go := fun i d ρ' H' ih x rl e => by
    obtain ⟨hi, rfl⟩ := rngD_get e
    exact ⟨hi, fun y H2 ⟨eH, hy⟩ => by subst eH; subst hy; exact ⟨.refl, rl, .int _⟩⟩
  stop := fun ρ' H' x => by rw [rngD_length]; exact Nat.le_refl n
/-- (decided by choice: the kernel must not count to it) -/
def Rng (j : Int) : Prop := -(2 ^ 62) ≤ j ∧ j < 2 ^ 62
theorem rng_of {j : Int} (h0 : -(2 ^ 62) ≤ j) (h1 : j < 2 ^ 62) : Rng j := ⟨h0, h1⟩
noncomputable instance (j : Int) : Decidable (Rng j) := Classical.propDecidable _
noncomputable def rngI1 (ms : MA) : MI := fun env h => (ms env h).bind fun ds h => match ds with
  | [.int j] => if Rng j then .ok (.snap (rngD 0 j.toNat)) h else .stuck
  | _ => .stuck
noncomputable def rngI2 (ms : MA) : MI := fun env h => (ms env h).bind fun ds h => match ds with
  | [.int i, .int j] => if Rng i ∧ Rng j then .ok (.snap (rngD i (j - i).toNat)) h else .stuck
  | _ => .stuck
theorem si_range1 {a : Expr} (hg : Gl X "range") (hm : X.mg "range" = none) (A : SA xp X [a] ms) (hs : starEach [a] X.env = [(false, eval a X.env)] := by rfl) : SI xp X tg (.Call (.Name "range" p) [a] [] pos) (rngI1 ms) := fun W tk => by
  obtain ⟨ta, pa, ha⟩ := A W tk
  refine ⟨_, pi_range1 hg hm pa hs, fun ρ env ih σ H Q rl post => ?_⟩
  refine fstA (ta := ta) ha rl (lkI (Q := Q)) post fun ρ1 ds h1 vs H1 e1 r1 p1 post => ?_
  split at post
  · rename_i j
    cases p1 with
    | cons q1 t =>
      cases t
      cases q1
      split at post
      · rename_i c
        exact ⟨j, rfl, c.1, c.2, post ρ1 _ H1 .refl r1 itr_ok⟩
      · exact post.elim
  · exact post.elim
theorem si_range2 {a b : Expr} (hg : Gl X "range") (hm : X.mg "range" = none) (A : SA xp X [a, b] ms) (hs : starEach [a, b] X.env = [(false, eval a X.env), (false, eval b X.env)] := by rfl) (hs2 : starEach [b] X.env = [(false, eval b X.env)] := by rfl) : SI xp X tg (.Call (.Name "range" p) [a, b] [] pos) (rngI2 ms) := fun W tk => by
  obtain ⟨ta, pa, ha⟩ := A W tk
  refine ⟨_, pi_range2 hg hm pa hs hs2, fun ρ env ih σ H Q rl post => ?_⟩
  refine fstA (ta := ta) ha rl (lkI (Q := Q)) post fun ρ1 ds h1 vs H1 e1 r1 p1 post => ?_
  split at post
  · rename_i i j
    cases p1 with
    | cons q1 t =>
      cases t with
      | cons q2 t =>
        cases t
        cases q1
        cases q2
        split at post
        · rename_i c
          exact ⟨i, j, rfl, ⟨c.1.1, c.1.2, c.2.1, c.2.2⟩, post ρ1 _ H1 .refl r1 itr_ok⟩
        · exact post.elim
  · exact post.elim

/-! ### subscripts -/
/-- of a list, a tuple, a text -/
def ixM : MO := fun d e h => match e with
  | .int k => match d with
    | .tup ds => match atI ds k with
      | some x => .ok x h
      | none => .stuck
    | .fz ds => match atI ds k with
      | some x => .ok x h
      | none => .stuck
    | .ref n => match h[n]? with
      | some (.lst ds) => match atI ds k with
        | some x => .ok x h
        | none => .stuck
      | _ => .stuck
    | .str z => if z.length ≤ sizeLine then match atI z.cps.toList k with
      | some c => .ok (.str ⟨#[c]⟩) h
      | none => .stuck else .stuck
    | _ => .stuck
  | _ => .stuck
theorem RepL.at {K : PySem.W.Frag} {ρ : Rho} {H : Hp} {ds : List D} {vs : List V} {k : Int} {d : D} (r : RepL K ρ H ds vs) (h : atI ds k = some d) : ∃ v, atI vs k = some v ∧ RepV K ρ H d v := by
  unfold atI at h
  obtain ⟨j, h1, h2⟩ := Option.bind_eq_some_iff.mp h
  obtain ⟨v, h3, h4⟩ := r.get h2
  refine ⟨v, ?_, h4⟩
  unfold atI
  rw [← r.length, h1]
  exact h3
theorem s_ix {a b : Expr} (A : SE xp X a ma) (B : SE xp X b mb) (hs : PlainIx b := by exact fun _ _ => rfl) : SE xp X (.Subscript a b pos) (binM ixM ma mb) := fun W tk => by
  obtain ⟨ta, pa, ha⟩ := A W tk
  obtain ⟨tb, pb, hb⟩ := B W tk
  refine ⟨_, pe_ix ix_seq pa pb hs, fun ρ env ih σ H Q rl post => ?_⟩
  refine bin2 (ta := ta) (tb := tb) ha hb rl post fun ρ1 h1 H1 d e x y x1 r1 rd re post => ?_
  unfold ixM at post
  split at post
  · rename_i k
    cases re
    split at post
    · cases rd with
      | @tup a vs _ h1 h2 =>
        split at post
        · rename_i z q
          obtain ⟨v, hv, rv⟩ := h2.at q
          exact .inr (.inl ⟨a, vs, k, v, rfl, rfl, h1, hv, post ρ1 _ H1 .refl r1 rv⟩)
        · exact post.elim
    · cases rd with
      | @fz a vs _ h1 h2 =>
        split at post
        · rename_i z q
          obtain ⟨v, hv, rv⟩ := h2.at q
          exact .inl ⟨a, vs, k, v, rfl, rfl, h1.sq, hv, post ρ1 _ H1 .refl r1 rv⟩
        · exact post.elim
    · cases rd with
      | @ref _ a h1 =>
        split at post
        · rename_i ds hn
          obtain ⟨vs, hv, rl⟩ := r1.lst h1 hn
          split at post
          · rename_i z q
            obtain ⟨v, hv', rv⟩ := rl.at q
            exact .inl ⟨a, vs, k, v, rfl, rfl, SqL.of hv, hv', post ρ1 _ H1 .refl r1 rv⟩
          · exact post.elim
        · exact post.elim
    · cases rd
      split at post
      · rename_i c
        split at post
        · rename_i z q
          exact .inr (.inr ⟨_, k, z, rfl, rfl, c, q, post ρ1 _ H1 .refl r1 (.str _)⟩)
        · exact post.elim
      · exact post.elim
    · exact post.elim
  · exact post.elim

/-! ### built-in functions -/
def SC (X : Cx) (f : Value) (m : MF) : Prop := ∃ r, CallR X f r ∧ ∀ W ρ ih H σ Q ds vs, RelH X.K ρ ih H → RepL X.K ρ H ds vs → PostE X.K X.mg W ρ σ H Q (m ds ih) → r vs H Q
variable {x : Str} {F : MF} {id T : String}
theorem s_callB (c : SC X (.builtin id) F) (hg : Gl X x) (hm : X.mg x = none) (hv : bootBuiltins x = some (.builtin id)) (A : SA xp X (e :: es) ms) (hn : x ≠ "__name__" := by decide) (hdb : (x == ("__debug__" : Str)) = false := by decide)
    (he : starEach (e :: es) X.env = (false, eval e X.env) :: starEach es X.env := by rfl) (hpl : (backTo pos (starEach es X.env)).any (·.1) = false := by rfl) : SE xp X (.Call (.Name x p) (e :: es) [] pos) (callM F ms) := fun W tk => by
  obtain ⟨ta, pa, ha⟩ := A W tk
  obtain ⟨r, hc, hr⟩ := c
  refine ⟨_, pe_callB hc hg hm hv pa hn hdb he hpl, fun ρ env ih σ H Q rl post => ?_⟩
  exact fstA (ta := ta) ha rl (lkE (Q := Q)) post fun ρ1 ds h1 vs H1 e1 r1 p1 post => hr W ρ1 h1 H1 σ Q ds vs r1 p1 post
theorem s_callTy (c : SC X (.type T) F) (hg : Gl X x) (hm : X.mg x = none) (hv : bootBuiltins x = some (.type T)) (A : SA xp X (e :: es) ms) (hn : x ≠ "__name__" := by decide) (hdb : (x == ("__debug__" : Str)) = false := by decide)
    (he : starEach (e :: es) X.env = (false, eval e X.env) :: starEach es X.env := by rfl) (hpl : (backTo pos (starEach es X.env)).any (·.1) = false := by rfl) : SE xp X (.Call (.Name x p) (e :: es) [] pos) (callM F ms) := fun W tk => by
  obtain ⟨ta, pa, ha⟩ := A W tk
  obtain ⟨r, hc, hr⟩ := c
  refine ⟨_, pe_callTy hc hg hm hv pa hn hdb he hpl, fun ρ env ih σ H Q rl post => ?_⟩
  exact fstA (ta := ta) ha rl (lkE (Q := Q)) post fun ρ1 ds h1 vs H1 e1 r1 p1 post => hr W ρ1 h1 H1 σ Q ds vs r1 p1 post
/-- a built-in function of a module, by an imported name -/
theorem s_callF (c : SC X (.builtin id) F) (hg : Gl X x) (hm : X.mg x = some (.builtin id)) (A : SA xp X (e :: es) ms) (hdb : (x == ("__debug__" : Str)) = false := by decide)
    (he : starEach (e :: es) X.env = (false, eval e X.env) :: starEach es X.env := by rfl) (hpl : (backTo pos (starEach es X.env)).any (·.1) = false := by rfl) : SE xp X (.Call (.Name x p) (e :: es) [] pos) (callM F ms) := fun W tk => by
  obtain ⟨ta, pa, ha⟩ := A W tk
  obtain ⟨r, hc, hr⟩ := c
  refine ⟨_, pe_callBfun hc hg hm pa hdb he hpl, fun ρ env ih σ H Q rl post => ?_⟩
  exact fstA (ta := ta) ha rl (lkE (Q := Q)) post fun ρ1 ds h1 vs H1 e1 r1 p1 post => hr W ρ1 h1 H1 σ Q ds vs r1 p1 post
def lenF : MF := fun ds h => match ds with
  | [.tup xs] => .ok (.int xs.length) h
  | [.fz xs] => .ok (.int xs.length) h
  | [.str x] => if x.length ≤ sizeLine then .ok (.int x.length) h else .stuck
  | [.ref n] => match h[n]? with
    | some (.lst xs) => .ok (.int xs.length) h
    | _ => .stuck
  | _ => .stuck
theorem c_len : SC X (.builtin "len") lenF := ⟨_, call_len, fun W ρ ih H σ Q ds vs rl rv post => by
  unfold lenF at post
  split at post
  · cases rv with
    | cons q t =>
      cases t
      cases q with
      | @tup a vs xs h1 h2 =>
        refine ⟨_, _, rfl, .inr ⟨vs, h1, rfl⟩, ?_⟩
        rw [← h2.length]
        exact post ρ _ H .refl rl (.int _)
  · cases rv with
    | cons q t =>
      cases t
      cases q with
      | @fz a vs xs h1 h2 =>
        refine ⟨_, _, rfl, .inl ⟨vs, h1.sq, rfl⟩, ?_⟩
        rw [← h2.length]
        exact post ρ _ H .refl rl (.int _)
  · cases rv with
    | cons q t =>
      cases t
      cases q
      split at post
      · rename_i c
        exact ⟨_, _, rfl, ⟨c, rfl⟩, post ρ _ H .refl rl (.int _)⟩
      · exact post.elim
  · cases rv with
    | cons q t =>
      cases t
      cases q with
      | @ref n a h1 =>
        split at post
        · rename_i xs hn
          obtain ⟨vs, hv, r⟩ := rl.lst h1 hn
          refine ⟨_, _, rfl, .inl ⟨vs, SqL.of hv, rfl⟩, ?_⟩
          rw [← r.length]
          exact post ρ _ H .refl rl (.int _)
        · exact post.elim
  · exact post.elim⟩
def absF : MF := fun ds h => match ds with
  | [.int i] => .ok (.int (if i < 0 then -i else i)) h
  | _ => .stuck
theorem c_abs : SC X (.builtin "abs") absF := ⟨_, call_abs, fun W ρ ih H σ Q ds vs rl rv post => by
  unfold absF at post
  split at post
  · cases rv with
    | cons q t =>
      cases t
      cases q
      exact ⟨_, rfl, post ρ _ H .refl rl (.int _)⟩
  · exact post.elim⟩
def intF : MF := fun ds h => match ds with
  | [.int i] => .ok (.int i) h
  | [.bl b] => .ok (.int (if b then 1 else 0)) h
  | _ => .stuck
theorem c_int : SC X (.type "int") intF := ⟨_, call_int1, fun W ρ ih H σ Q ds vs rl rv post => by
  unfold intF at post
  split at post
  · cases rv with
    | cons q t =>
      cases t
      cases q
      exact .inl ⟨_, rfl, post ρ _ H .refl rl (.int _)⟩
  · cases rv with
    | cons q t =>
      cases t
      cases q
      exact .inr ⟨_, rfl, post ρ _ H .refl rl (.int _)⟩
  · exact post.elim⟩
def gcdF : MF := fun ds h => match ds with
  | [.int i, .int j] => .ok (.int ((Nat.gcd i.natAbs j.natAbs : Nat) : Int)) h
  | _ => .stuck
theorem c_gcd : SC X (.builtin "math.gcd") gcdF := ⟨_, cr_gcd, fun W ρ ih H σ Q ds vs rl rv post => by
  unfold gcdF at post
  split at post
  · cases rv with
    | cons q t =>
      cases t with
      | cons q2 t =>
        cases t
        cases q
        cases q2
        exact ⟨_, _, rfl, post ρ _ H .refl rl (.int _)⟩
  · exact post.elim⟩
/-- list(x) -/
def listF : MF := fun ds h => match ds with
  | [.tup xs] => newL h xs
  | [.fz xs] => newL h xs
  | [.ref n] => match h[n]? with
    | some (.lst xs) => newL h xs
    | _ => .stuck
  | _ => .stuck
theorem c_list : SC X (.type "list") listF := ⟨_, call_list_of, fun W ρ ih H σ Q ds vs rl rv post => by
  unfold listF at post
  split at post
  · cases rv with
    | cons q t =>
      cases t
      cases q with
      | @tup a vs xs h1 h2 =>
        refine ⟨_, vs, rfl, .inr h1, fun l hl => ?_⟩
        obtain ⟨ρ', x', rl', rv⟩ := alloc rl hl h2
        exact post ρ' _ _ x' rl' rv
  · cases rv with
    | cons q t =>
      cases t
      cases q with
      | @fz a vs xs h1 h2 =>
        refine ⟨_, vs, rfl, .inl h1.sq, fun l hl => ?_⟩
        obtain ⟨ρ', x', rl', rv⟩ := alloc rl hl h2
        exact post ρ' _ _ x' rl' rv
  · cases rv with
    | cons q t =>
      cases t
      cases q with
      | @ref n a h1 =>
        split at post
        · rename_i xs hn
          obtain ⟨vs, hv, r⟩ := rl.lst h1 hn
          refine ⟨_, vs, rfl, .inl (SqL.of hv), fun l hl => ?_⟩
          obtain ⟨ρ', x', rl', rv⟩ := alloc rl hl r
          exact post ρ' _ _ x' rl' rv
        · exact post.elim
  · exact post.elim⟩

/-! ### isinstance -/
def tyN (h : IH) : D → Option String
  | .non => some "NoneType"
  | .bl _ => some "bool"
  | .int _ => some "int"
  | .str _ => some "str"
  | .tup _ => some "tuple"
  | .fz _ => some "list"
  | .ref n => match h[n]? with
    | some (.lst _) => some "list"
    | _ => none
  | .xv => none
theorem tyN_ok {K : PySem.W.Frag} {ρ : Rho} {H : Hp} {ih : IH} (rl : RelH K ρ ih H) {d : D} {v : V} {n : String} (q : tyN ih d = some n) (r : RepV K ρ H d v) : TyX K H v (.type n) := by
  cases r with
  | non => cases q; exact .base .non
  | bl b => cases q; exact .base (.bl b)
  | int i => cases q; exact .base (.int i)
  | str x => cases q; exact .base (.str x)
  | tup h1 h2 =>
    cases q
    rcases h1 with (h1 | ⟨o, h1⟩) | ⟨o, its, k, h1, h3, _⟩
    · exact .base (.tup h1)
    · exact .fTuple h1
    · exact .kTuple h1 h3
  | fz h1 h2 =>
    cases q
    rcases h1 with ⟨o, h1⟩ | ⟨o, its, k, h1, h3, _⟩
    · exact .base (.frz h1)
    · exact .kList h1 h3
  | @ref m a h1 =>
    have q' : (match ih[m]? with
      | some (.lst _) => some "list"
      | _ => none) = some n := q
    split at q'
    · rename_i ds hn
      cases q'
      obtain ⟨vs, hv, _⟩ := rl.lst h1 hn
      exact .base (.lst hv)
    · cases q'
/-- isinstance(e, T), T a built-in class -/
def isiM (T : String) (ma : ME) : ME := fun env h => (ma env h).bind fun d h => match (tyN h d).bind fun n => kitB n T with
  | some b => .ok (.bl b) h
  | none => .stuck
theorem s_isi {y : Str} {p2 : Pos} (hg : Gl X "isinstance") (hm : X.mg "isinstance" = none) (hg2 : Gl X y) (hm2 : X.mg y = none) (hv2 : bootBuiltins y = some (.type T)) (A : SE xp X e ma)
    (hv : bootBuiltins "isinstance" = some (.builtin "isinstance") := by decide +kernel) (hn2 : y ≠ "__name__" := by decide) (hdb2 : (y == ("__debug__" : Str)) = false := by decide)
    (hs1 : starEach [e, .Name y p2] X.env = (false, eval e X.env) :: starEach [.Name y p2] X.env := by rfl) (hs2 : starEach [.Name y p2] X.env = (false, eval (.Name y p2) X.env) :: starEach [] X.env := by rfl)
    (hpl : (backTo pos (starEach [.Name y p2] X.env)).any (·.1) = false := by rfl) : SE xp X (.Call (.Name "isinstance" p) [e, .Name y p2] [] pos) (isiM T ma) := fun W tk => by
  obtain ⟨ta, pa, ha⟩ := A W tk
  refine ⟨_, pe_callB call_isi hg hm hv (pa_cons pa (pa_cons (pe_bltn (v := .ty T) hg2 hm2 hv2 rfl hn2 hdb2) pa_nil hs2) hs1) (by decide) (by decide) hs1 hpl, fun ρ env ih σ H Q rl post => ?_⟩
  refine fstE (ta := ta) ha rl (lkE (Q := Q)) post fun ρ1 d h1 v H1 e1 r1 p1 post => ?_
  split at post
  · rename_i b q
    obtain ⟨n, q1, q2⟩ := Option.bind_eq_some_iff.mp q
    exact ⟨v, .ty T, .type n, .type T, b, rfl, .ty T, tyN_ok r1 q1 p1, kit_ty q2, post ρ1 _ H1 .refl r1 (.bl _)⟩
  · exact post.elim
end
end Z
/-! Z8: a def's promise from its body; exceptions. -/
namespace Z
open PySem PySem.Spec PyProof.Rows L2
def finM : RS → R D
  | .nx _ h => .ok .non h
  | .rt d h => .ok d h
  | .exc x _ h => .exc x h
  | _ => .stuck
noncomputable def defM (n : Nat) (m : MS) : MF := fun ds h => trunc h (finM (m (ds.map some ++ List.replicate (n - ds.length) none) h))
section
variable {P : Program} {w : World} {K : PySem.W.Frag} {mg : Str → Option Value} {base : Heap} {ρ : Rho} {H : Hp} {ih : IH}
theorem start_rel {ds : List D} {vs : List V} {N : List Str} {n : Nat} (rl : RelH K ρ ih H) (rv : RepL K ρ H ds vs) (hn : n = N.length) : Rel K none ρ (ds.map some ++ List.replicate (n - ds.length) none) ih (L2.start N vs) H := by
  subst hn
  have hl := rv.length
  refine ⟨rl, by simp [L2.start, hl], fun i d e ne => ?_, fun i e => ?_, fun p e => by cases e⟩
  · by_cases hi : i < ds.length
    · rw [List.getElem?_append_left (by simpa using hi), List.getElem?_map] at e
      obtain ⟨d', e1, e2⟩ := Option.map_eq_some_iff.mp e
      cases e2
      obtain ⟨v, e3, e4⟩ := rv.get e1
      refine ⟨v, ?_, e4⟩
      unfold L2.start
      rw [List.getElem?_append_left (by simpa [← hl] using hi), List.getElem?_map, e3]
      rfl
    · rw [List.getElem?_append_right (by simpa using hi)] at e
      have := List.mem_of_getElem? e
      rw [List.mem_replicate] at this
      cases this.2
  · by_cases hi : i < ds.length
    · rw [List.getElem?_append_left (by simpa using hi), List.getElem?_map] at e
      obtain ⟨d', e1, e2⟩ := Option.map_eq_some_iff.mp e
      cases e2
      obtain ⟨v, e3, e4⟩ := rv.get e1
      cases e4
    · rw [List.getElem?_append_right (by simpa using hi)] at e
      have := List.mem_of_getElem? e
      rw [List.mem_replicate] at this
      cases this.2
/-- a def does what its body's meaning says -/
theorem fn_sim {x qual : Str} {params : Arguments} {body : List Stmt} {scope : Scope} {f : Addr} {fd : FuncData} {N ps : List Str} {k n : Nat} {m : MS} (F : FunD K x qual params body scope [] [] f fd) (S : FnScope N ps scope) (hn : n = N.length)
    (B : ∀ (cdv : Value) (A : Around) (outer : List PySem.Env) (s : Shared) (H : Hp) (E : XK), Room k (A.deeper (envOfC qual scope s.heap.objs.size f cdv)) → SSs none (cxOf (L2.CX P w) P w K mg base N qual scope f cdv A outer s H E) body m) :
    FnOk P w K mg base (L2.CX P w) (k + 1) f fd ps (spF K mg ps.length (defM n m)) := by
  refine F.ok S (fun vs H Q E h => h.1) (fun cdv A outer s H vs Q E hr h => ?_)
  obtain ⟨hl, ρ, ds, ih, rl, rv, post⟩ := h
  obtain ⟨t, pt, ht⟩ := B cdv A outer s H E hr (fun cls od _ H => E cls od H) (takes_of rfl rfl rfl rfl)
  refine ⟨t, pt, ht ρ _ ih (L2.start N vs) H _ (start_rel rl rv hn) ?_⟩
  have post := trunc_post rl post
  revert post
  show PostE K mg _ ρ [] H Q (finM (m _ ih)) → PostS K mg _ none ρ H _ (m _ ih)
  cases m (ds.map some ++ List.replicate (n - ds.length) none) ih with
  | nx e h => exact fun post ρ' σ' H' x r => post ρ' .non H' x r.hp .non
  | rt d h => exact fun post => post
  | exc x e h => exact fun post ρ' cls od σ' H' y r q => post ρ' cls od H' y r.hp q
  | bk e h => exact fun post => post.elim
  | ct e h => exact fun post => post.elim
  | stuck => exact fun post => post.elim
theorem fs_of {x qual : Str} {params : Arguments} {body : List Stmt} {scope : Scope} {f : Addr} {fd : FuncData} {N ps : List Str} {k n : Nat} {m : MS} (F : FunD K x qual params body scope [] [] f fd) (S : FnScope N ps scope) (hn : n = N.length) (hm : mg x = some (.ref f)) (hb : Binds K fd ps [])
    (B : ∀ (cdv : Value) (A : Around) (outer : List PySem.Env) (s : Shared) (H : Hp) (E : XK), Room k (A.deeper (envOfC qual scope s.heap.objs.size f cdv)) → SSs none (cxOf (L2.CX P w) P w K mg base N qual scope f cdv A outer s H E) body m) :
    FS P w K mg base x (k + 1) ps.length (defM n m) := ⟨f, fd, ps, hm, F.kp, hb, fn_sim F S hn B⟩
end

/-! ### making an exception -/
/-- __init__ stores its arguments in the fields fs -/
def spI (C : Addr) (fs : List Str) : Sp := fun vs H Q _ => ∃ (a : Addr) (ws : List V), vs = .ref a :: ws ∧ ws.length = fs.length ∧ H a = some (exo a C none) ∧
  ∀ dx H', H dx = none → dx ≠ a → H' a = some (exo a C (some dx)) → H' dx = some (exd dx (fs.zip ws).reverse) → (∀ b, b ≠ a → b ≠ dx → H' b = H b) → Q .non H'
/-- the class named x is an exception of fields fs -/
structure XC (P : Program) (w : World) (K : PySem.W.Frag) (mg : Str → Option Value) (base : Heap) (x : Str) (k : Nat) (fs : List Str) : Prop where
  ex : ∃ (C fI : Addr) (fd : FuncData) (ps : List Str), C = He.ga K x ∧ mg x = some (.ref C) ∧ OexC K C ∧ PySem.W.findIn K (.ref C) "__init__" = some (some (.ref fI)) ∧ PySem.W.typeIn K (.ref fI) = some (.type "function") ∧
    Binds K fd ps [] ∧ FnOk P w K mg base (L2.CX P w) k fI fd ps (spI C fs)
section
variable {K : PySem.W.Frag} {ρ : Rho} {H : Hp}
theorem RepF.append : ∀ {a c : List (Str × D)} {b d : List (Str × V)}, RepF K ρ H a b → RepF K ρ H c d → RepF K ρ H (a ++ c) (b ++ d)
  | _, _, _, _, .nil, s => s
  | _, _, _, _, .cons r t, s => .cons r (RepF.append t s)
theorem RepF.reverse : ∀ {a : List (Str × D)} {b : List (Str × V)}, RepF K ρ H a b → RepF K ρ H a.reverse b.reverse
  | _, _, .nil => .nil
  | _, _, .cons r t => by
    rw [List.reverse_cons, List.reverse_cons]
    exact (RepF.reverse t).append (.cons r .nil)
theorem RepF.zip : ∀ (fs : List Str) {ds : List D} {vs : List V}, RepL K ρ H ds vs → RepF K ρ H (fs.zip ds) (fs.zip vs)
  | [], _, _, _ => .nil
  | _ :: _, _, _, .nil => .nil
  | _ :: fs, _, _, .cons r t => .cons r (RepF.zip fs t)
end
section
variable {xp : Option XP} {X : Cx} {e : Expr} {es : List Expr} {ms : MA} {x : Str} {k j : Nat} {fs : List Str} {p pos pos2 : Pos}
def raiseM (x : Str) (fs : List Str) (ms : MA) : MS := fun env h => (ms env h).thenS env fun ds h => if ds.length = fs.length ∧ fs.length ≤ 900 then .exc ⟨x, (fs.zip ds).reverse⟩ env h else .stuck
theorem st_raise (hc : X.calm = true) (c : XC X.prog X.w X.K X.mg X.base x k fs) (hr : Room j X.A) (hk : k + 1 ≤ j) (hg : Gl X x) (A : SA xp X (e :: es) ms)
    (hdb : (x == ("__debug__" : Str)) = false := by decide) (he : starEach (e :: es) X.env = (false, eval e X.env) :: starEach es X.env := by rfl) (hpl : (backTo pos (starEach es X.env)).any (·.1) = false := by rfl) :
    SS xp X (.Raise (some (.Call (.Name x p) (e :: es) [] pos)) none pos2) (raiseM x fs ms) := fun W tk => by
  obtain ⟨ta, pa, ha⟩ := A W tk
  obtain ⟨C, fI, fd, ps, eC, hm, T, iC, tI, hb, hF⟩ := c.ex
  refine ⟨_, ps_raise hc tk (pmk_oex T iC tI hF (hr.mono hk) hb .nil passL hg hm pa hdb he hpl), fun ρ env ih σ H N rl post => ?_⟩
  refine fstA (ta := ta) ha rl (lkS (N := N) rl) post fun ρ1 ds h1 vs H1 e1 r1 p1 post => ?_
  split at post
  · rename_i c
    have hl := p1.length
    refine ⟨by omega, fun a hna => ?_⟩
    refine ⟨a, vs, by rw [List.append_nil], by omega, upd_same, fun dx H' hdx hne h2 h3 h4 => ⟨rfl, dx, _, h2, h3, ?_, ?_⟩⟩
    · rw [upd_ne hne] at hdx; exact hdx
    · have hdx1 : H1 dx = none := by rw [upd_ne hne] at hdx; exact hdx
      have ag : ∀ b, b ≠ dx → upd (del H' a) dx (.xd (fs.zip vs).reverse) b = H1 b := fun b hb => by
        rw [upd_ne hb]
        by_cases hba : b = a
        · rw [hba, del_same, hna]
        · rw [del_ne hba, h4 b hba hb, upd_ne hba]
      have x2 : Ext ρ1 H1 ρ1 (upd (del H' a) dx (.xd (fs.zip vs).reverse)) :=
        ⟨List.prefix_refl _, fun _ z => .inl z, fun b o q _ => by rw [ag b (ne_of_none q hdx1)]; exact q, fun b o q => by rw [ag b (ne_of_none q hdx1)]; exact q,
          fun b o u q => by rw [ag b (ne_of_none q hdx1)]; exact q, fun b o q => by rw [ag b (ne_of_none q hdx1)]; exact q⟩
      have r2 : RelH X.K ρ1 h1 (upd (del H' a) dx (.xd (fs.zip vs).reverse)) := ⟨r1.len, r1.nd, fun n b o q1 q2 => by
        obtain ⟨u, hu⟩ := r1.ne_none (List.mem_of_getElem? q1)
        exact (r1.obj n b o q1 q2).ext x2 (ag b (ne_of_none hu hdx1))⟩
      exact post ρ1 (.ref C) (some dx) σ _ x2 ((rl.next e1 r1).next x2 r2) ⟨dx, _, by rw [eC], rfl, upd_same, ((RepF.zip fs p1).reverse).ext x2⟩
  · exact post.elim

/-! ### try -/
def clr : Option D → Option D
  | some .xv => none
  | o => o
def unsetO {α : Type} (i : Option Nat) (l : List (Option α)) : List (Option α) := match i with
  | some i => l.set i none
  | none => l
/-- behind an except suite: the slot i (if any) is empty -/
def endX (i : Option Nat) : RS → RS
  | .nx e h => .nx ((unsetO i e).map clr) h
  | .bk e h => .bk ((unsetO i e).map clr) h
  | .ct e h => .ct ((unsetO i e).map clr) h
  | .rt d h => .rt d h
  | _ => .stuck
def begX (i : Option Nat) (e : Ev) : Ev := match i with
  | some i => e.set i (some .xv)
  | none => e
/-- try with clauses: a class's name, the suite -/
def catchM (sub : Str → Str → Option Bool) (i : Option Nat) : List (Str × (Exc → MS)) → Exc → Ev → IH → RS
  | [], x, e, h => .exc x e h
  | (c, mh) :: hs, x, e, h => match sub x.cls c with
    | some true => endX i (mh x (begX i e) h)
    | some false => catchM sub i hs x e h
    | none => .stuck
def tryM (sub : Str → Str → Option Bool) (i : Option Nat) (mb : MS) (hs : List (Str × (Exc → MS))) : MS := fun env h => match mb env h with
  | .exc x e h => catchM sub i hs x e h
  | r => r
/-- the reading that a meaning has -/
def canS (K : PySem.W.Frag) (mg : Str → Option Value) (W : WX) (xp : Option XP) (m : MS) : TS := fun D σ H => ∃ ρ env ih, Rel K xp ρ env ih σ H ∧ PostS K mg W xp ρ H D (m env ih)
theorem SSs.can {xp : Option XP} {X : Cx} {st : List Stmt} {m : MS} {W : WX} (S : SSs xp X st m) (tk : Takes X W) : PSs X st (canS X.K X.mg W xp m) := by
  obtain ⟨t, pt, ht⟩ := S W tk
  exact ⟨fun pins s σ H D I ⟨ρ, env, ih, rl, post⟩ => pt.run pins s σ H D I (ht ρ env ih σ H D rl post)⟩
def canH (K : PySem.W.Frag) (mg : Str → Option Value) (mh : Exc → MS) : Addr → Value → Option Addr → TS := fun a cls d D σ H => ∃ x, canS K mg (fun _ _ _ _ => False) (some ⟨a, cls, d, x⟩) (mh x) D σ H
variable {n : Str} {i : Nat} {body suite : List Stmt} {b₀ : Stmt} {np pos' : Pos} {mb : MS} {mh : Exc → MS} {sub : Str → Str → Option Bool}
/-- a suite, whatever the exception -/
def SX (X : Cx) (suite : List Stmt) (mh : Exc → MS) : Prop := ∀ (a : Addr) (oe : Obj) (cls : Value) (d : Option Addr) (pn : List (Addr × Obj)) (x : Exc), Zc cls d oe → (∃ vs, oe.data = .fields vs) → SSs (some ⟨a, cls, d, x⟩) (X.suite a ((a, oe) :: pn)) suite (mh x)
/-- a body, whatever wish -/
def SB (X : Cx) (body : List Stmt) (mb : MS) : Prop := ∀ (pn : List (Addr × Obj)) (xe : Value → Shared → Prop), PassesOwn (model X.prog X.w) X.A X.env xe → SSs none (X.tr pn xe) body mb
theorem SX.can {X : Cx} (S : SX X suite mh) {a : Addr} {oe : Obj} {cls : Value} {d : Option Addr} {pn : List (Addr × Obj)} (hz : Zc cls d oe) (hf : ∃ vs, oe.data = .fields vs) : PSs (X.suite a ((a, oe) :: pn)) suite (canH X.K X.mg mh a cls d) :=
  ⟨fun pins s σ H D I ⟨x, q⟩ => ((S a oe cls d pn x hz hf).can (W := fun _ _ _ _ => False) takes0).run pins s σ H D I q⟩
end
end Z
/-! Z9: what the top has made of the exceptions' classes; what a suite reads of its exception. -/
namespace Z
open PySem PySem.Spec PyProof.Rows L2
/-! ### a class of exceptions, by looking -/
def oexCls (K : PySem.W.Frag) (C : Addr) : Bool := match K.lookup C with
  | some ⟨.type "type", _, .cls cd, sl⟩ => (match cd.mro, sl.toList with
    | .ref C' :: bm, [_, _, _, _, some (.builtin n), _] => C' == C && n == "ValueError.__new__" && !cd.hasDel && cd.hasDict && PySem.HandSPX.refsVE bm
    | _, _ => false)
  | _ => false
theorem oexCls_ok {K : PySem.W.Frag} {C : Addr} (q : oexCls K C = true) : ∃ nm q N bs bm sn sub ab col dd k0 k1 k2 k3 k5, K.lookup C = some (excClassObj nm q C N bs bm true sn sub ab col dd k0 k1 k2 k3 k5 "ValueError.__new__") ∧ PySem.HandSPX.refsVE bm = true := by
  unfold oexCls at q
  split at q
  · rename_i dd cd sl ho
    split at q
    · rename_i C' bm k0 k1 k2 k3 n k5 hm hs
      simp only [Bool.and_eq_true, beq_iff_eq, Bool.not_eq_true'] at q
      obtain ⟨⟨⟨⟨rfl, rfl⟩, hdel⟩, hd⟩, ht⟩ := q
      obtain ⟨nm, bs, mro, ns, qn, hd', sn, sub, ab, col, del⟩ := cd
      dsimp only at hm hdel hd
      subst hm hdel hd
      have hsl : sl = #[k0, k1, k2, k3, some (.builtin "ValueError.__new__"), k5] := by
        obtain ⟨l⟩ := sl
        simp only at hs
        rw [hs]
      subst hsl
      exact ⟨nm, qn, ns, bs, bm, sn, sub, ab, col, dd, k0, k1, k2, k3, k5, ho, ht⟩
    · cases q
  · cases q
def dB {α : Type} [DecidableEq α] (a b : α) : Bool := decide (a = b)
/-- all that is wanted of the exception class named x with the fields fs -/
def excB (K : PySem.W.Frag) (x : Str) (fs : List Str) : Bool :=
  let C := He.ga K x
  He.eqO (PySem.W.nsIn K mainGlobals x) (some (some (.ref C))) && (oexCls K C && (He.eqO (PySem.W.findIn K (.ref C) "__setattr__") (some (some (.builtin "object.__setattr__"))) &&
  (dB (PySem.W.subIn K (.ref C) (.type "BaseException")) (some true) && (dB (PySem.W.typeIn K (.ref C)) (some (.type "type")) && (PySem.W.keepIn K (.ref C) && (
  He.eqO (PySem.W.findIn K (.ref C) "__init__") (some (some (.ref (He.ma K C "__init__")))) && (dB (PySem.W.typeIn K (.ref (He.ma K C "__init__"))) (some (.type "function")) && (
  xfB K C && (fs.all (fun f => He.eqO (PySem.W.findIn K (.ref C) f) (some none)) && (
  He.eqO (PySem.W.findIn K (.ref C) "__class__") (some (some (.builtin "object.__class__"))) && (He.eqO (PySem.W.specialIn K (.builtin "object.__class__") "__get__") (some (some (.builtin "getset_descriptor.__get__"))) && (
  dB (PySem.W.takesIn K (.builtin "object.__class__")) (some true) && dB (PySem.W.mroIn K C (.type "object")) (some true)))))))))))))
structure ExcF (K : PySem.W.Frag) (x : Str) (fs : List Str) : Prop where
  ns : PySem.W.nsIn K mainGlobals x = some (some (.ref (He.ga K x)))
  oex : OexC K (He.ga K x)
  iC : PySem.W.findIn K (.ref (He.ga K x)) "__init__" = some (some (.ref (He.ma K (He.ga K x) "__init__")))
  tI : PySem.W.typeIn K (.ref (He.ma K (He.ga K x) "__init__")) = some (.type "function")
  xf : XfC K (He.ga K x)
  no : ∀ f ∈ fs, PySem.W.findIn K (.ref (He.ga K x)) f = some none
  ha : PySem.W.findIn K (.ref (He.ga K x)) "__class__" = some (some (.builtin "object.__class__"))
  hn : PySem.W.specialIn K (.builtin "object.__class__") "__get__" = some (some (.builtin "getset_descriptor.__get__"))
  ht : PySem.W.takesIn K (.builtin "object.__class__") = some true
  hm : PySem.W.mroIn K (He.ga K x) (.type "object") = some true
theorem excB_ok {K : PySem.W.Frag} {x : Str} {fs : List Str} (h : excB K x fs = true) : ExcF K x fs := by
  unfold excB at h
  obtain ⟨h1, h⟩ := He.ba h
  obtain ⟨h2, h⟩ := He.ba h
  obtain ⟨h3, h⟩ := He.ba h
  obtain ⟨h4, h⟩ := He.ba h
  obtain ⟨h5, h⟩ := He.ba h
  obtain ⟨h6, h⟩ := He.ba h
  obtain ⟨h7, h⟩ := He.ba h
  obtain ⟨h8, h⟩ := He.ba h
  obtain ⟨h9, h⟩ := He.ba h
  obtain ⟨h10, h⟩ := He.ba h
  obtain ⟨h11, h⟩ := He.ba h
  obtain ⟨h12, h⟩ := He.ba h
  obtain ⟨h13, h14⟩ := He.ba h
  exact ⟨He.eqO_ok h1, ⟨oexCls_ok h2, He.eqO_ok h3, of_decide_eq_true h4, of_decide_eq_true h5, h6⟩, He.eqO_ok h7, of_decide_eq_true h8, xfB_ok h9,
    fun f hf => He.eqO_ok (List.all_eq_true.mp h10 f hf), He.eqO_ok h11, He.eqO_ok h12, of_decide_eq_true h13, of_decide_eq_true h14⟩
/-! ### __init__ of one, two, three fields -/
section
variable {P : Program} {w : World} {K : PySem.W.Frag} {mg : Str → Option Value} {base : Heap} {C f : Addr} {fd : FuncData} {x qual : Str} {params : Arguments} {scope : Scope}
theorem init1 {ns n1 : Str} {p1 p2 p3 p4 : Pos} (F : FunD K x qual params [.Assign [.Attribute (.Name ns p1) n1 p2] (.Name n1 p3) p4] scope [] [] f fd) (S : FnScope [ns, n1] [ns, n1] scope) (T : OexC K C) (no1 : PySem.W.findIn K (.ref C) n1 = some none)
    (v0 : Vis scope ns) (v1 : Vis scope n1) (d0 : (ns == ("__debug__" : Str)) = false := by decide) (d1 : (n1 == ("__debug__" : Str)) = false := by decide) (c0 : (ns == ("__classdict__" : Str)) = false := by decide) (c1 : (n1 == ("__classdict__" : Str)) = false := by decide)
    (hs : ∀ X : Cx, X.env.scope = scope → swapsWith (.Name n1 p3) (some (.Attribute (.Name ns p1) n1 p2)) p4.line X.env = pure false := by intro _ _; rfl) :
    FnOk P w K mg base (L2.CX P w) 1 f fd [ns, n1] (spI C [n1]) := by
  refine F.ok S (fun vs H Q E h => by obtain ⟨a, ws, rfl, hl, _⟩ := h; simpa using hl) (fun cdv A outer s H vs Q E hr h => ?_)
  obtain ⟨a, ws, rfl, hl, ha, k⟩ := h
  obtain ⟨y, rfl⟩ : ∃ y, ws = [y] := by
    match ws, hl with
    | [y], _ => exact ⟨y, rfl⟩
  refine ⟨_, pss_one (ps_ost (pe_var (i := 0) rfl v0 d0 c0) (pe_var (i := 1) rfl v1 d1 c1) (hs _ rfl)), ?_⟩
  refine ⟨y, rfl, .ref a, rfl, a, C, rfl, T, no1, .inl ⟨ha, fun dx hdx hne => ?_⟩⟩
  exact k dx _ hdx hne upd_same (by rw [upd_ne hne]; exact upd_same) fun b h1 h2 => by rw [upd_ne h1, upd_ne h2]
end

/-! ### in a suite -/
section
variable {X : Cx} {a : Addr} {oe : Obj} {cls : Value} {d : Option Addr} {pn : List (Addr × Obj)} {x : Exc} {n : Str} {i : Nat} {p pos : Pos}
/-- the fields that may be read of an exception, by its class's name -/
def XFs (K : PySem.W.Frag) (fok : Str → Str → Bool) : Prop := ∀ c f, fok c f = true → XfC K (He.ga K c) ∧ PySem.W.findIn K (.ref (He.ga K c)) f = some none
def xfM (fok : Str → Str → Bool) (i : Nat) (x : Exc) (f : Str) : ME := fun env h => match env[i]? with
  | some (some .xv) => if fok x.cls f = true then (match x.fs.lookup f with
    | some v => .ok v h
    | none => .stuck) else .stuck
  | _ => .stuck
/-! isinstance of the exception -/
def isxM (isub : Str → Str → Option Bool) (i : Nat) (x : Exc) (y : Str) : ME := fun env h => match env[i]? with
  | some (some .xv) => (match isub x.cls y with
    | some b => .ok (.bl b) h
    | none => .stuck)
  | _ => .stuck
end

/-! ### argument lists of a known length -/
def LenA (n : Nat) (ms : MA) : Prop := ∀ env h ds h', ms env h = .ok ds h' → ds.length = n
theorem la_nil : LenA 0 anilM := fun env h ds h' e => by cases e; rfl
theorem la_cons {n : Nat} {ma : ME} {ms : MA} (a : LenA n ms) : LenA (n + 1) (aconsM ma ms) := fun env h ds h' e => by
  unfold aconsM at e
  cases q : ma env h with
  | ok d h1 =>
    rw [q] at e
    cases q2 : ms env h1 with
    | ok ds1 h2 =>
      have e : (R.ok (d :: ds1) h2 : R (List D)) = .ok ds h' := by
        have e' : ((ms env h1).bind fun ds h => .ok (d :: ds) h) = .ok ds h' := e
        rw [q2] at e'
        exact e'
      cases e
      exact congrArg Nat.succ (a env h1 ds1 _ q2)
    | exc x h =>
      have e' : ((ms env h1).bind fun ds h => .ok (d :: ds) h) = .ok ds h' := e
      rw [q2] at e'
      cases e'
    | stuck =>
      have e' : ((ms env h1).bind fun ds h => .ok (d :: ds) h) = .ok ds h' := e
      rw [q2] at e'
      cases e'
  | exc x h => rw [q] at e; cases e
  | stuck => rw [q] at e; cases e
end Z
/-! Z10: what the top leaves, as a table; the end of a law. -/
namespace Z
open PySem PySem.Spec PyProof.Rows L2
/-! constants of the module -/
def conSeq (K : PySem.W.Frag) (n : String) (a : Addr) : Option (List Value) := match K.lookup a with
  | some o => match o.cls, o.dict, o.data with
    | .type m, none, .seq its _ => if m = n ∧ its.size ≤ sizeLine then some its.toList else none
    | _, _, _ => none
  | none => none
mutual
def conV (K : PySem.W.Frag) : D → Value → Bool
  | .non, u => match u with | .none => true | _ => false
  | .bl b, u => match u with | .bool c => b == c | _ => false
  | .int i, u => match u with | .int j _ => decide (i = j) | _ => false
  | .str x, u => match u with | .str y _ => decide (x = y) | _ => false
  | .tup ds, u => match u with | .ref a => (match conSeq K "tuple" a with | some us => conL K ds us | none => false) | _ => false
  | .fz ds, u => match u with | .ref a => (match conSeq K "list" a with | some us => conL K ds us | none => false) | _ => false
  | .ref _, _ => false
  | .xv, _ => false
def conL (K : PySem.W.Frag) : List D → List Value → Bool
  | [], us => match us with | [] => true | _ => false
  | d :: ds, us => match us with | u :: us => conV K d u && conL K ds us | [] => false
end
theorem conSeq_ok {K : PySem.W.Frag} {n : String} {a : Addr} {us : List Value} (h : conSeq K n a = some us) : ∃ (o : Obj) (its : Array Value) (k : Nat), K.lookup a = some o ∧ o.cls = .type n ∧ o.dict = none ∧ o.data = .seq its k ∧ its.size ≤ sizeLine ∧ its.toList = us := by
  unfold conSeq at h
  split at h
  · rename_i o e
    split at h
    · rename_i m its k h1 h2 h3
      split at h
      · rename_i c
        cases h
        exact ⟨o, its, k, e, by rw [h1, c.1], h2, h3, c.2, rfl⟩
      · cases h
    · cases h
  · cases h
mutual
theorem conV_ok {K : PySem.W.Frag} : ∀ {d : D} {u : Value}, conV K d u = true → ∃ v, RelV v u ∧ ∀ ρ H, RepV K ρ H d v
  | .non, u, h => by cases u <;> first | exact ⟨.non, rfl, fun _ _ => .non⟩ | cases h
  | .bl b, u, h => by
    cases u <;> first | cases h | skip
    rename_i c
    have : b = c := by simpa [conV] using h
    subst this
    exact ⟨.bl b, rfl, fun _ _ => .bl b⟩
  | .int i, u, h => by
    cases u <;> first | cases h | skip
    rename_i j t
    have : i = j := by simpa [conV] using h
    subst this
    exact ⟨.int i, ⟨t, rfl⟩, fun _ _ => .int i⟩
  | .str x, u, h => by
    cases u <;> first | cases h | skip
    rename_i y t
    have : x = y := by simpa [conV] using h
    subst this
    exact ⟨.str x, ⟨t, rfl⟩, fun _ _ => .str x⟩
  | .tup ds, u, h => by
    cases u <;> first | cases h | skip
    rename_i a
    unfold conV at h
    dsimp only at h
    split at h
    · rename_i us e
      obtain ⟨vs, h1, h2⟩ := conL_ok h
      obtain ⟨o, its, k, q1, q2, q3, q4, q5, q6⟩ := conSeq_ok e
      exact ⟨.ref a, rfl, fun ρ H => .tup (.inr ⟨o, its, k, q1, q2, q4, q5, by rw [q6]; exact h1⟩) (h2 ρ H)⟩
    · cases h
  | .fz ds, u, h => by
    cases u <;> first | cases h | skip
    rename_i a
    unfold conV at h
    dsimp only at h
    split at h
    · rename_i us e
      obtain ⟨vs, h1, h2⟩ := conL_ok h
      obtain ⟨o, its, k, q1, q2, q3, q4, q5, q6⟩ := conSeq_ok e
      exact ⟨.ref a, rfl, fun ρ H => .fz (.inr ⟨o, its, k, q1, q2, q3, q4, q5, by rw [q6]; exact h1⟩) (h2 ρ H)⟩
    · cases h
  | .ref _, _, h => by simp [conV] at h
  | .xv, _, h => by simp [conV] at h
theorem conL_ok {K : PySem.W.Frag} : ∀ {ds : List D} {us : List Value}, conL K ds us = true → ∃ vs, Vals vs us ∧ ∀ ρ H, RepL K ρ H ds vs
  | [], us, h => by
    cases us with
    | nil => exact ⟨[], .nil, fun _ _ => .nil⟩
    | cons u us => simp [conL] at h
  | d :: ds, us, h => by
    cases us with
    | nil => simp [conL] at h
    | cons u us =>
      have h : (conV K d u && conL K ds us) = true := by simpa [conL] using h
      rw [Bool.and_eq_true] at h
      obtain ⟨v, h1, h2⟩ := conV_ok h.1
      obtain ⟨vs, h3, h4⟩ := conL_ok h.2
      exact ⟨v :: vs, .cons h1 h3, fun ρ H => .cons (h2 ρ H) (h4 ρ H)⟩
end
def conX (K : PySem.W.Frag) (x : Str) (d : D) : Bool := match PySem.W.nsIn K mainGlobals x with
  | some (some u) => conV K d u
  | _ => false
/-- x is a constant, d -/
def ConF (K : PySem.W.Frag) (mg : Str → Option Value) (x : Str) (d : D) : Prop := ∃ u v, mg x = some u ∧ RelV v u ∧ ∀ ρ H, RepV K ρ H d v
/-- the names that are free, the built-in functions of modules, the classes, the exceptions with their fields, which class is which -/
structure Tab where
  free : List Str
  bi : List (Str × String)
  cls : List Str
  exc : List (Str × List Str)
  ex : List (Str × Str × Bool)
  ey : List (Str × String × Bool)
  con : List (Str × D) := []
  ali : List (Str × Str) := []
  /-- facts of own classes; classes that are asked for by isinstance; which type is one; dicts of the top with texts as keys -/
  own : List He.Fa := []
  icl : List Str := []
  kit : List (Str × String × Bool) := []
  kio : List (Str × Str × Bool) := []
  dts : List (Str × List (Str × D)) := []
def conK (K : PySem.W.Frag) (x k : Str) (d : D) : Bool := match PySem.W.nsIn K (He.ga K x) k with
  | some (some u) => conV K d u
  | _ => false
/-- what isinstance asks of the class of an instance -/
def iclB (K : PySem.W.Frag) (x : Str) : Bool :=
  let C := He.ga K x
  He.eqO (PySem.W.findIn K (.ref C) "__class__") (some (some (.builtin "object.__class__"))) && (He.eqO (PySem.W.specialIn K (.builtin "object.__class__") "__get__") (some (some (.builtin "getset_descriptor.__get__"))) && (
  dB (PySem.W.takesIn K (.builtin "object.__class__")) (some true) && (dB (PySem.W.mroIn K C (.type "object")) (some true) && (He.Fa.cls x).ok K)))
structure IclF (K : PySem.W.Frag) (C : Addr) : Prop where
  ha : PySem.W.findIn K (.ref C) "__class__" = some (some (.builtin "object.__class__"))
  hn : PySem.W.specialIn K (.builtin "object.__class__") "__get__" = some (some (.builtin "getset_descriptor.__get__"))
  ht : PySem.W.takesIn K (.builtin "object.__class__") = some true
  hm : PySem.W.mroIn K C (.type "object") = some true
  cl : Cls K C
def Tab.more (t : Tab) (K : PySem.W.Frag) : Bool :=
  t.own.all (fun f => f.ok K) && (t.icl.all (fun c => iclB K c) && (t.kit.all (fun p => dB (PySem.W.kitOne K (.type p.2.1) (.ref (He.ga K p.1))) (some p.2.2)) && (
  t.kio.all (fun p => dB (PySem.W.kitOne K (.ref (He.ga K p.2.1)) (.ref (He.ga K p.1))) (some p.2.2)) && t.dts.all (fun q => q.2.all fun kv => conK K q.1 kv.1 kv.2))))
def Tab.ok (t : Tab) (K : PySem.W.Frag) : Bool :=
  t.free.all (fun x => He.eqO (PySem.W.nsIn K mainGlobals x) (some none)) && (t.bi.all (fun p => He.eqO (PySem.W.nsIn K mainGlobals p.1) (some (some (.builtin p.2)))) && (
  t.cls.all (fun x => He.eqO (PySem.W.nsIn K mainGlobals x) (some (some (.ref (He.ga K x))))) && (t.exc.all (fun p => excB K p.1 p.2) && (
  t.ex.all (fun p => dB (PySem.W.exmOne K (.ref (He.ga K p.1)) (.ref (He.ga K p.2.1))) (some p.2.2) && dB (PySem.W.kitOne K (.ref (He.ga K p.1)) (.ref (He.ga K p.2.1))) (some p.2.2)) &&
  t.ey.all (fun p => dB (PySem.W.exmOne K (.ref (He.ga K p.1)) (.type p.2.1)) (some p.2.2) && dB (PySem.W.kitOne K (.ref (He.ga K p.1)) (.type p.2.1)) (some p.2.2)) && (t.con.all (fun p => conX K p.1 p.2) && (t.ali.all (fun p => He.eqO (PySem.W.nsIn K mainGlobals p.1) (some (some (.ref (He.ga K p.2))))) && t.more K))))))
structure Tx (t : Tab) (K : PySem.W.Frag) (mg : Str → Option Value) : Prop where
  mn : ∀ x, x ∈ t.free → mg x = none
  mb : ∀ x id, (x, id) ∈ t.bi → mg x = some (.builtin id)
  mc : ∀ x, x ∈ t.cls → mg x = some (.ref (He.ga K x))
  xc : ∀ x fs, (x, fs) ∈ t.exc → ExcF K x fs
  em : ∀ x y b, (x, y, b) ∈ t.ex → PySem.W.exmOne K (.ref (He.ga K x)) (.ref (He.ga K y)) = some b ∧ PySem.W.kitOne K (.ref (He.ga K x)) (.ref (He.ga K y)) = some b
  et : ∀ x y b, (x, y, b) ∈ t.ey → PySem.W.exmOne K (.ref (He.ga K x)) (.type y) = some b ∧ PySem.W.kitOne K (.ref (He.ga K x)) (.type y) = some b
  con : ∀ x d, (x, d) ∈ t.con → ConF K mg x d
  ali : ∀ x y, (x, y) ∈ t.ali → mg x = some (.ref (He.ga K y))
  more : t.more K = true
theorem Tab.tx {t : Tab} {K : PySem.W.Frag} {h : Heap} {mg : Str → Option Value} (c : t.ok K = true) (X : K.In h) (G : h.Ns mainGlobals mg) : Tx t K mg := by
  unfold Tab.ok at c
  obtain ⟨c1, c⟩ := He.ba c
  obtain ⟨c2, c⟩ := He.ba c
  obtain ⟨c3, c⟩ := He.ba c
  obtain ⟨c4, c⟩ := He.ba c
  obtain ⟨c, c'⟩ := He.ba c
  obtain ⟨c5, c6⟩ := He.ba c
  obtain ⟨c7, c8⟩ := He.ba c'
  obtain ⟨c8, c9⟩ := He.ba c8
  refine ⟨fun x hx => PySem.W.mg_none_of X G (He.eqO_ok (List.all_eq_true.mp c1 x hx)), fun x id hx => PySem.W.mg_of X G (He.eqO_ok (List.all_eq_true.mp c2 (x, id) hx)), fun x hx => PySem.W.mg_of X G (He.eqO_ok (List.all_eq_true.mp c3 x hx)),
    fun x fs hx => excB_ok (List.all_eq_true.mp c4 (x, fs) hx), fun x y b hx => ?_, fun x y b hx => ?_, fun x d hx => ?_, fun x y hx => PySem.W.mg_of X G (He.eqO_ok (List.all_eq_true.mp c8 (x, y) hx)), c9⟩
  · obtain ⟨d1, d2⟩ := He.ba (List.all_eq_true.mp c5 (x, y, b) hx)
    exact ⟨of_decide_eq_true d1, of_decide_eq_true d2⟩
  · obtain ⟨d1, d2⟩ := He.ba (List.all_eq_true.mp c6 (x, y, b) hx)
    exact ⟨of_decide_eq_true d1, of_decide_eq_true d2⟩
  · have q : conX K x d = true := List.all_eq_true.mp c7 (x, d) hx
    unfold conX at q
    split at q
    · rename_i u e
      obtain ⟨v, h1, h2⟩ := conV_ok q
      exact ⟨u, v, PySem.W.mg_of X G e, h1, h2⟩
    · cases q
theorem Tx.fact {t : Tab} {K : PySem.W.Frag} {mg : Str → Option Value} (T : Tx t K mg) {f : He.Fa} (h : f ∈ t.own) : f.ok K = true :=
  List.all_eq_true.mp (He.ba T.more).1 f h
theorem Tx.dtV {t : Tab} {K : PySem.W.Frag} {mg : Str → Option Value} (T : Tx t K mg) {x k : Str} {d : D} {kvs : List (Str × D)} (h : (x, kvs) ∈ t.dts) (hk : (k, d) ∈ kvs) : ∃ u v, PySem.W.nsIn K (He.ga K x) k = some (some u) ∧ RelV v u ∧ ∀ ρ H, RepV K ρ H d v := by
  have q : conK K x k d = true := List.all_eq_true.mp (List.all_eq_true.mp (He.ba (He.ba (He.ba (He.ba T.more).2).2).2).2 (x, kvs) h) (k, d) hk
  unfold conK at q
  split at q
  · rename_i u e
    obtain ⟨v, h1, h2⟩ := conV_ok q
    exact ⟨u, v, e, h1, h2⟩
  · cases q
theorem s_con {xp : Option XP} {X : Cx} {x : Str} {d : D} {pos : Pos} (hg : Gl X x) (h : ConF X.K X.mg x d) (hd : (x == ("__debug__" : Str)) = false := by decide) : SE xp X (.Name x pos) (constM d) := fun W tk => by
  obtain ⟨u, v, h1, h2, h3⟩ := h
  exact ⟨_, pe_glob hg h1 h2 hd, fun ρ env ih σ H Q rl post => post ρ v H .refl rl.hp (h3 ρ H)⟩
/-- is an x a y, both the program's own classes -/
def Tab.sub (t : Tab) (x y : Str) : Option Bool := (t.ex.find? fun p => decide (p.1 = x ∧ p.2.1 = y)).map (·.2.2)
/-- .. y a built-in class, by its name -/
def Tab.suy (t : Tab) (x y : Str) : Option Bool := (t.ey.find? fun p => decide (p.1 = x ∧ PySem.Str.ofString p.2.1 = y)).map (·.2.2)
def Tab.isub (t : Tab) (x y : Str) : Option Bool := match t.sub x y with
  | some b => some b
  | none => t.suy x y
def Tab.fok (t : Tab) (x f : Str) : Bool := t.exc.any fun p => decide (p.1 = x) && p.2.contains f
section
variable {t : Tab} {K : PySem.W.Frag} {mg : Str → Option Value}
theorem Tx.fokE (T : Tx t K mg) : XFs K t.fok := fun c f h => by
  obtain ⟨p, h1, h2⟩ := List.any_eq_true.mp h
  rw [Bool.and_eq_true] at h2
  obtain ⟨h2, h3⟩ := h2
  obtain ⟨p1, p2⟩ := p
  have e := of_decide_eq_true h2
  dsimp only at e h3
  subst e
  have F := T.xc _ _ h1
  exact ⟨F.xf, F.no f (List.contains_iff_mem.mp h3)⟩
end
/-! ### the head's hook -/
def tabsK (t : Tab) (K : PySem.W.Frag) : List (Option (List (Option (Str × Int)))) := t.dts.map fun q => He.dicW K (He.ga K q.1)
def tabsV (t : Tab) (w : World) : List (Option (List (Option (Str × Int)))) := t.dts.map fun q => some (He.keysIn w.params (q.2.map Prod.fst))
def obsZ (t : Tab) (fn : List He.DefD) (K : PySem.W.Frag) : He.AlT := ((t.ok K && fn.all fun d => d.ok K, fn.map fun d => He.fnW K d.at_), tabsK t K)
def valZ (t : Tab) (fn : List He.DefD) (w : World) : He.AlT := (He.valD fn, tabsV t w)
def SaysZ (t : Tab) (fn : List He.DefD) (w : World) (K : PySem.W.Frag) : Prop := obsZ t fn K = valZ t fn w
section
variable {t : Tab} {fn : List He.DefD} {w : World} {K : PySem.W.Frag}
theorem SaysZ.d (c : SaysZ t fn w K) : (t.ok K && fn.all fun d => d.ok K, fn.map fun d => He.fnW K d.at_) = He.valD fn := congrArg (fun z : He.AlT => z.1) c
theorem SaysZ.tab (c : SaysZ t fn w K) : t.ok K = true :=
  (He.ba (show (t.ok K && fn.all fun d => d.ok K) = true from congrArg (fun z : He.AlD => z.1) c.d)).1
theorem SaysZ.def_ (c : SaysZ t fn w K) (i : Nat) {d : He.DefD} (h : fn[i]? = some d := by rfl) : ∃ fd, FunD K d.name d.qual d.params d.body d.scope (d.dvs K) (d.kws K) (He.fAd K d.at_) fd := by
  have c2 := (He.ba (show (t.ok K && fn.all fun d => d.ok K) = true from congrArg (fun z : He.AlD => z.1) c.d)).2
  have e : fn.map (fun d => He.fnW K d.at_) = fn.map He.DefD.val := congrArg (fun z : He.AlD => z.2) c.d
  have e2 : (fn.map fun d => He.fnW K d.at_)[i]? = (fn.map He.DefD.val)[i]? := by rw [e]
  rw [List.getElem?_map, List.getElem?_map, h] at e2
  exact He.DefD.funD (Option.some.inj e2) (List.all_eq_true.mp c2 d (List.mem_of_getElem? h))
/-- a dict of the top -/
theorem SaysZ.dict (c : SaysZ t fn w K) (i : Nat) {x : Str} {kvs : List (Str × D)} (h : t.dts[i]? = some (x, kvs) := by rfl) : ∃ es n, KDict K w (He.ga K x) es n ∧ es.toList.map He.keyOf = He.keysIn w.params (kvs.map Prod.fst) := by
  have e : tabsK t K = tabsV t w := congrArg (fun z : He.AlT => z.2) c
  have e2 : (tabsK t K)[i]? = (tabsV t w)[i]? := by rw [e]
  unfold tabsK tabsV at e2
  rw [List.getElem?_map, List.getElem?_map, h] at e2
  have e3 : He.dicW K (He.ga K x) = some (He.keysIn w.params (kvs.map Prod.fst)) := Option.some.inj e2
  obtain ⟨es, n, q⟩ := He.dicW_ok e3
  refine ⟨es, n, q, ?_⟩
  unfold He.dicW at e3
  rw [q.at_] at e3
  dsimp only at e3
  rw [show (decide (("dict" : String) = "dict") && ((#[] : Array (Option Value)).isEmpty && !(He.ga K x == sysModules))) = true by rw [q.low]; rfl] at e3
  exact Option.some.inj e3
end
/-! ### the end -/
theorem quiet {P : Program} {w : World} {K : PySem.W.Frag} {mg : Str → Option Value} {base : Heap} {k : Nat} {f : Addr} {fd : FuncData} {ps : List Str} {sp : Sp} (F : FnOk P w K mg base (L2.CX P w) k f fd ps sp) :
    FnOk P w K mg base CX0 k f fd ps (fun vs H Q _ => sp vs H Q fun _ _ _ => False) :=
  ⟨fun vs H Q E h => F.len vs H Q _ h, fun A outer s H args us vs Q E hr he hb hv hs => codeAny_mono (F.run A outer s H args us vs Q (fun _ _ _ => False) hr he hb hv hs) fun r s' q => by
    cases r with
    | ok fl => cases fl <;> exact q
    | error e =>
      obtain ⟨_, _, _, _, _, _, _, _, _, _, _, _, z⟩ := q
      exact z.elim⟩
theorem law_sp {K : PySem.W.Frag} {mg : Str → Option Value} {F : MF} {H : Hp} {a : Addr} {ns : List Int} (hO : Only H) (hS : SqL K H a (ns.map V.int)) (h : ∃ h, F [.fz (ns.map .int)] [] = .ok (.bl true) h) :
    spF K mg 1 F [.ref a] H (fun v _ => v = .bl true) (fun _ _ _ => False) := by
  obtain ⟨h, e⟩ := h
  have hF : SqF K H a (ns.map V.int) := by
    rcases hS with (z | ⟨o, z⟩) | z
    · rcases hO a with q | ⟨o, xs, q⟩
      · rw [q] at z; cases z
      · rw [q] at z; cases z
    · exact .inl ⟨o, z⟩
    · exact .inr z
  have hL : ∀ l : List Int, RepL K ⟨[]⟩ H (l.map D.int) (l.map V.int) := fun l => by
    induction l with
    | nil => exact .nil
    | cons i l ih => exact .cons (.int i) ih
  refine ⟨rfl, ⟨[]⟩, [.fz (ns.map .int)], [], ⟨rfl, List.nodup_nil, fun n a o e1 _ => by simp at e1⟩, .cons (.fz hF (hL ns)) .nil, ?_⟩
  rw [e]
  intro ρ' v H' x r q
  cases q
  rfl
end Z
/-! Z11: the meanings, evaluated (a simp set). -/
namespace Z
open PySem PySem.Spec PyProof.Rows L2
section
variable {env : Ev} {h : IH} {ma mb mc : ME} {mt mt' : MT} {ms : MA} {m1 m2 : MS} {g : MG} {gs : MGs} {o o' : MO} {i j n : Nat} {d e : D} {ds : List D}
/-- a slot's value -/
def okV (h : IH) : D → R D
  | .xv => .stuck
  | d => .ok d h
def getV (h : IH) : Option (Option D) → R D
  | some (some d) => okV h d
  | _ => .stuck
@[simp] theorem okV_non : okV h .non = .ok .non h := rfl
@[simp] theorem okV_bl {b : Bool} : okV h (.bl b) = .ok (.bl b) h := rfl
@[simp] theorem okV_int {i : Int} : okV h (.int i) = .ok (.int i) h := rfl
@[simp] theorem okV_str {x : Str} : okV h (.str x) = .ok (.str x) h := rfl
@[simp] theorem okV_tup : okV h (.tup ds) = .ok (.tup ds) h := rfl
@[simp] theorem okV_fz : okV h (.fz ds) = .ok (.fz ds) h := rfl
@[simp] theorem okV_ref : okV h (.ref n) = .ok (.ref n) h := rfl
@[simp] theorem getV_some : getV h (some (some d)) = okV h d := rfl
@[simp] theorem getV_none : getV h (some none) = .stuck := rfl
@[simp] theorem varM_get : varM i env h = getV h env[i]? := by
  unfold varM getV
  split
  · rename_i e; rw [e]; rfl
  · rename_i d ne e
    rw [e]
    cases d <;> first | rfl | exact absurd rfl ne
  · rename_i h1 h2
    split
    · rename_i d e
      exact absurd e (h2 d)
    · rfl
theorem varM_eq : varM i env h = match env[i]? with
  | some (some .xv) => .stuck
  | some (some d) => .ok d h
  | _ => .stuck := rfl
@[simp] theorem constM_eq : constM d env h = .ok d h := rfl
@[simp] theorem binM_eq : binM o ma mb env h = (ma env h).bindG .exc .stuck fun x h1 => (mb env h1).bindG .exc .stuck fun y h2 => o x y h2 := rfl
@[simp] theorem anilM_eq : anilM env h = .ok [] h := rfl
@[simp] theorem aconsM_eq : aconsM ma ms env h = (ma env h).bindG .exc .stuck fun d h => (ms env h).bindG .exc .stuck fun ds h => .ok (d :: ds) h := rfl
theorem le_line {n : Nat} (h : n ≤ 16777216) : n ≤ sizeLine := by rw [sizeLine_eq]; exact h
theorem tupM_eq : tupM ms env h = (ms env h).bindG .exc .stuck fun ds h => if ds.length ≤ sizeLine then .ok (.tup ds) h else .stuck := rfl
theorem lstM_eq : lstM ms env h = (ms env h).bindG .exc .stuck fun ds h => if ds.length ≤ sizeLine then newL h ds else .stuck := rfl
theorem newL_eq : newL h ds = .ok (.ref h.length) (h ++ [.lst ds]) := rfl
@[simp] theorem sizeLine_is : sizeLine = 16777216 := sizeLine_eq
@[simp] theorem testM_eq : testM ma env h = (ma env h).bindG .exc .stuck fun d h => match truB h d with
  | some b => .ok b h
  | none => .stuck := rfl
@[simp] theorem btestM_eq : btestM ma env h = (ma env h).bindG .exc .stuck fun d h => match d with
  | .bl b => .ok b h
  | _ => .stuck := rfl
@[simp] theorem tnotM_eq : tnotM mt env h = (mt env h).bindG .exc .stuck fun b h => .ok (!b) h := rfl
@[simp] theorem tandM_eq : tandM mt mt' env h = (mt env h).bindG .exc .stuck fun b h => if b = true then mt' env h else .ok false h := rfl
@[simp] theorem torM_eq : torM mt mt' env h = (mt env h).bindG .exc .stuck fun b h => if b = true then .ok true h else mt' env h := rfl
@[simp] theorem andM_eq : andM ma mb env h = (ma env h).bindG .exc .stuck fun d h => match truB h d with
  | some true => mb env h
  | some false => .ok d h
  | none => .stuck := rfl
@[simp] theorem orM_eq : orM ma mb env h = (ma env h).bindG .exc .stuck fun d h => match truB h d with
  | some true => .ok d h
  | some false => mb env h
  | none => .stuck := rfl
@[simp] theorem notM_eq : notM ma env h = (ma env h).bindG .exc .stuck fun d h => match truB h d with
  | some b => .ok (.bl (!b)) h
  | none => .stuck := rfl
@[simp] theorem iteM_eq : iteM mt ma mb env h = (mt env h).bindG .exc .stuck fun b h => if b = true then ma env h else mb env h := rfl
@[simp] theorem negM_eq : negM ma env h = (ma env h).bindG .exc .stuck fun d h => match d with
  | .int i => .ok (.int (-i)) h
  | _ => .stuck := rfl
@[simp] theorem chainM_eq : chainM o o' ma mb mc env h = (ma env h).bindG .exc .stuck fun x h => (mb env h).bindG .exc .stuck fun y h => (o x y h).bindG .exc .stuck fun z h => chain2 o' mc env y z h := rfl
@[simp] theorem chain2_t : chain2 o' mc env d (.bl true) h = (mc env h).bindG .exc .stuck fun w h => o' d w h := rfl
@[simp] theorem chain2_f : chain2 o' mc env d (.bl false) h = .ok (.bl false) h := rfl
@[simp] theorem callM_eq {F : MF} : callM F ms env h = (ms env h).bindG .exc .stuck fun ds h => F ds h := rfl
@[simp] theorem seqM_eq : seqM m1 m2 env h = match m1 env h with
  | .nx e h => m2 e h
  | .rt d h => .rt d h
  | .bk e h => .bk e h
  | .ct e h => .ct e h
  | .exc x e h => .exc x e h
  | .stuck => .stuck := rfl
@[simp] theorem nextM_eq : nextM env h = .nx env h := rfl
@[simp] theorem brkM_eq : brkM env h = .bk env h := rfl
@[simp] theorem contM_eq : contM env h = .ct env h := rfl
@[simp] theorem exprM_eq : exprM ma env h = (ma env h).bindG (fun x h => .exc x env h) .stuck fun _ h => .nx env h := rfl
@[simp] theorem retM_eq : retM ma env h = (ma env h).bindG (fun x h => .exc x env h) .stuck fun d h => .rt d h := rfl
@[simp] theorem retNM_eq : retNM env h = .rt .non h := rfl
@[simp] theorem ifM_eq : ifM mt m1 m2 env h = (mt env h).bindG (fun x h => .exc x env h) .stuck fun b h => if b = true then m1 env h else m2 env h := rfl
@[simp] theorem setM_eq : setM i ma env h = (ma env h).bindG (fun x h => .exc x env h) .stuck fun d h => .nx (env.set i (some d)) h := rfl
@[simp] theorem asgM_eq : asgM g ma env h = (ma env h).bindG (fun x h => .exc x env h) .stuck fun d h => match g d env with
  | some env => .nx env h
  | none => .stuck := rfl
@[simp] theorem gnameM_eq : gnameM i d env = some (env.set i (some d)) := rfl
@[simp] theorem gnilM_eq : gnilM [] env = some env := rfl
@[simp] theorem gconsM_eq : gconsM g gs (d :: ds) env = (g d env).bind fun env => gs ds env := rfl
@[simp] theorem gtupM_eq : gtupM n gs (.tup ds) env = if ds.length = n then gs ds env else none := rfl
@[simp] theorem parM_eq : parM i j ms env h = (ms env h).bindG (fun x h => .exc x env h) .stuck fun ds h => match ds with
  | [d, e] => .nx ((env.set i (some d)).set j (some e)) h
  | _ => .stuck := rfl
@[simp] theorem putM_eq {p : MP} : putM p ma mb mc env h = (mc env h).bindG (fun x h => .exc x env h) .stuck fun d h => (ma env h).bindG (fun x h => .exc x env h) .stuck fun o h => (mb env h).bindG (fun x h => .exc x env h) .stuck fun i h => match p o i d h with
  | some h => .nx env h
  | none => .stuck := rfl
@[simp] theorem raiseM_eq {x : Str} {fs : List Str} : raiseM x fs ms env h = (ms env h).bindG (fun x h => .exc x env h) .stuck fun ds h => if ds.length = fs.length ∧ fs.length ≤ 900 then .exc ⟨x, (fs.zip ds).reverse⟩ env h else .stuck := rfl
@[simp] theorem forM_eq {mi : MI} : forM mi g m1 env h = (mi env h).bindG (fun x h => .exc x env h) .stuck fun s h => match s with
  | .snap ds => forS g m1 ds env h
  | .live v => forV g m1 v LOOP 0 env h := rfl
@[simp] theorem rngI1_eq : rngI1 ms env h = (ms env h).bindG .exc .stuck fun ds h => match ds with
  | [.int j] => if Rng j then .ok (.snap (rngD 0 j.toNat)) h else .stuck
  | _ => .stuck := rfl
@[simp] theorem rngI2_eq : rngI2 ms env h = (ms env h).bindG .exc .stuck fun ds h => match ds with
  | [.int i, .int j] => if Rng i ∧ Rng j then .ok (.snap (rngD i (j - i).toNat)) h else .stuck
  | _ => .stuck := rfl
@[simp] theorem seqI_eq : seqI ma env h = (ma env h).bindG .exc .stuck fun d h => match srcOf h d with
  | some s => .ok s h
  | none => .stuck := rfl
@[simp] theorem srcOf_tup : srcOf h (.tup ds) = some (.snap ds) := rfl
@[simp] theorem srcOf_fz : srcOf h (.fz ds) = some (.snap ds) := rfl
@[simp] theorem forS_nil : forS g m1 [] env h = .nx env h := rfl
@[simp] theorem forS_cons : forS g m1 (d :: ds) env h = turnM g m1 d env h (forS g m1 ds) := rfl
@[simp] theorem turnM_eq {k : Ev → IH → RS} : turnM g m1 d env h k = match g d env with
  | none => .stuck
  | some e => match m1 e h with
    | .nx e h => k e h
    | .ct e h => k e h
    | .bk e h => .nx e h
    | .rt d h => .rt d h
    | .exc x e h => .exc x e h
    | .stuck => .stuck := rfl
@[simp] theorem tryM_eq {sub : Str → Str → Option Bool} {k : Option Nat} {hs : List (Str × (Exc → MS))} : tryM sub k m1 hs env h = match m1 env h with
  | .exc x e h => catchM sub k hs x e h
  | .nx e h => .nx e h
  | .rt d h => .rt d h
  | .bk e h => .bk e h
  | .ct e h => .ct e h
  | .stuck => .stuck := by unfold tryM; cases m1 env h <;> rfl
@[simp] theorem catchM_cons {sub : Str → Str → Option Bool} {k : Option Nat} {c : Str} {mh : Exc → MS} {hs : List (Str × (Exc → MS))} {x : Exc} : catchM sub k ((c, mh) :: hs) x env h = match sub x.cls c with
  | some true => endX k (mh x (begX k env) h)
  | some false => catchM sub k hs x env h
  | none => .stuck := rfl
@[simp] theorem catchM_nil {sub : Str → Str → Option Bool} {k : Option Nat} {x : Exc} : catchM sub k [] x env h = .exc x env h := rfl
@[simp] theorem begX_some : begX (some i) env = env.set i (some .xv) := rfl
@[simp] theorem begX_none : begX none env = env := rfl
@[simp] theorem endX_nx {k : Option Nat} : endX k (.nx env h) = .nx ((unsetO k env).map clr) h := rfl
@[simp] theorem endX_rt {k : Option Nat} : endX k (.rt d h) = .rt d h := rfl
@[simp] theorem endX_bk {k : Option Nat} : endX k (.bk env h) = .bk ((unsetO k env).map clr) h := rfl
@[simp] theorem endX_ct {k : Option Nat} : endX k (.ct env h) = .ct ((unsetO k env).map clr) h := rfl
@[simp] theorem unsetO_some : unsetO (some i) env = env.set i none := rfl
@[simp] theorem unsetO_none : unsetO none env = env := rfl
@[simp] theorem clr_none : clr none = none := rfl
@[simp] theorem clr_int {k : Int} : clr (some (.int k)) = some (.int k) := rfl
@[simp] theorem clr_bl {k : Bool} : clr (some (.bl k)) = some (.bl k) := rfl
@[simp] theorem clr_tup : clr (some (.tup ds)) = some (.tup ds) := rfl
@[simp] theorem clr_ref : clr (some (.ref n)) = some (.ref n) := rfl
@[simp] theorem clr_str {x : Str} : clr (some (.str x)) = some (.str x) := rfl
@[simp] theorem clr_xv : clr (some .xv) = none := rfl
@[simp] theorem finM_nx : finM (.nx env h) = .ok .non h := rfl
@[simp] theorem finM_rt : finM (.rt d h) = .ok d h := rfl
@[simp] theorem finM_exc {x : Exc} : finM (.exc x env h) = .exc x h := rfl
@[simp] theorem xfM_eq {fok : Str → Str → Bool} {x : Exc} {f : Str} : xfM fok i x f env h = match env[i]? with
  | some (some .xv) => if fok x.cls f = true then (match x.fs.lookup f with
    | some v => .ok v h
    | none => .stuck) else .stuck
  | _ => .stuck := rfl
@[simp] theorem isxM_eq {isub : Str → Str → Option Bool} {x : Exc} {y : Str} : isxM isub i x y env h = match env[i]? with
  | some (some .xv) => (match isub x.cls y with
    | some b => .ok (.bl b) h
    | none => .stuck)
  | _ => .stuck := rfl
/-! values -/
@[simp] theorem truB_bl {b : Bool} : truB h (.bl b) = some b := rfl
@[simp] theorem truB_int {k : Int} : truB h (.int k) = some (k != 0) := rfl
@[simp] theorem truB_non : truB h .non = some false := rfl
@[simp] theorem truB_tup : truB h (.tup ds) = some (!ds.isEmpty) := rfl
@[simp] theorem tyN_non : tyN h .non = some "NoneType" := rfl
@[simp] theorem tyN_bl {b : Bool} : tyN h (.bl b) = some "bool" := rfl
@[simp] theorem tyN_int {k : Int} : tyN h (.int k) = some "int" := rfl
@[simp] theorem tyN_str {x : Str} : tyN h (.str x) = some "str" := rfl
@[simp] theorem tyN_tup : tyN h (.tup ds) = some "tuple" := rfl
@[simp] theorem tyN_fz : tyN h (.fz ds) = some "list" := rfl
theorem tyN_ref {xs : List D} (e : h[n]? = some (.lst xs)) : tyN h (.ref n) = some "list" := by unfold tyN; simp only [e]
@[simp] theorem isiM_eq {T : String} : isiM T ma env h = (ma env h).bindG .exc .stuck fun d h => match (tyN h d).bind fun n => kitB n T with
  | some b => .ok (.bl b) h
  | none => .stuck := rfl
@[simp] theorem kit_non_bool : kitB "NoneType" "bool" = some false := by decide +kernel
@[simp] theorem kit_non_list : kitB "NoneType" "list" = some false := by decide +kernel
@[simp] theorem kit_bool_list : kitB "bool" "list" = some false := by decide +kernel
@[simp] theorem kit_str_list : kitB "str" "list" = some false := by decide +kernel
@[simp] theorem kit_tup_bool : kitB "tuple" "bool" = some false := by decide +kernel
@[simp] theorem kit_list_bool : kitB "list" "bool" = some false := by decide +kernel
@[simp] theorem kit_int_int : kitB "int" "int" = some true := by decide +kernel
@[simp] theorem kit_int_bool : kitB "int" "bool" = some false := by decide +kernel
@[simp] theorem kit_bool_int : kitB "bool" "int" = some true := by decide +kernel
@[simp] theorem kit_bool_bool : kitB "bool" "bool" = some true := by decide +kernel
@[simp] theorem kit_tup_tup : kitB "tuple" "tuple" = some true := by decide +kernel
@[simp] theorem kit_int_tup : kitB "int" "tuple" = some false := by decide +kernel
@[simp] theorem kit_non_tup : kitB "NoneType" "tuple" = some false := by decide +kernel
@[simp] theorem kit_list_tup : kitB "list" "tuple" = some false := by decide +kernel
@[simp] theorem kit_str_tup : kitB "str" "tuple" = some false := by decide +kernel
@[simp] theorem kit_bool_tup : kitB "bool" "tuple" = some false := by decide +kernel
@[simp] theorem kit_str_int : kitB "str" "int" = some false := by decide +kernel
@[simp] theorem kit_str_bool : kitB "str" "bool" = some false := by decide +kernel
@[simp] theorem kit_tup_int : kitB "tuple" "int" = some false := by decide +kernel
@[simp] theorem kit_non_int : kitB "NoneType" "int" = some false := by decide +kernel
@[simp] theorem kit_list_int : kitB "list" "int" = some false := by decide +kernel
@[simp] theorem kit_list_list : kitB "list" "list" = some true := by decide +kernel
@[simp] theorem kit_str_str : kitB "str" "str" = some true := by decide +kernel
@[simp] theorem kit_int_str : kitB "int" "str" = some false := by decide +kernel
@[simp] theorem kit_non_str : kitB "NoneType" "str" = some false := by decide +kernel
@[simp] theorem kit_tup_str : kitB "tuple" "str" = some false := by decide +kernel
@[simp] theorem kit_list_str : kitB "list" "str" = some false := by decide +kernel
@[simp] theorem kit_bool_str : kitB "bool" "str" = some false := by decide +kernel
@[simp] theorem kit_tup_list : kitB "tuple" "list" = some false := by decide +kernel
@[simp] theorem kit_int_list : kitB "int" "list" = some false := by decide +kernel
/-! operators on ints -/
variable {x y : Int}
@[simp] theorem subM_int : subM (.int x) (.int y) h = .ok (.int (x - y)) h := by simp [subM, intM]
@[simp] theorem addM_int : addM (.int x) (.int y) h = .ok (.int (x + y)) h := rfl
@[simp] theorem ltM_int : ltM (.int x) (.int y) h = .ok (.bl (decide (x < y))) h := rfl
@[simp] theorem leM_int : leM (.int x) (.int y) h = .ok (.bl (decide (x ≤ y))) h := rfl
@[simp] theorem gtM_int : gtM (.int x) (.int y) h = .ok (.bl (decide (y < x))) h := rfl
@[simp] theorem geM_int : geM (.int x) (.int y) h = .ok (.bl (decide (y ≤ x))) h := rfl
theorem mulM_int (c : small x y) : mulM (.int x) (.int y) h = .ok (.int (x * y)) h := if_pos c
theorem fdivM_int (h0 : y ≠ 0) (c : y.natAbs.log2 < 9000) : fdivM (.int x) (.int y) h = .ok (.int (x.fdiv y)) h := if_pos (show y ≠ 0 ∧ _ from ⟨h0, c⟩)
theorem modM_int (h0 : y ≠ 0) : modM (.int x) (.int y) h = .ok (.int (x.fmod y)) h := if_pos h0
theorem powM_int (c : 0 ≤ y ∧ y ≤ 1000000 ∧ x.natAbs < 2 ^ 64) : powM (.int x) (.int y) h = .ok (.int (x ^ y.toNat)) h := if_pos c
theorem eqv_int {x y : Int} : PyData.eqv (.int x) (.int y) = decide (x = y) := by
  show (x == y) = _
  by_cases c : x = y <;> simp [c]
@[simp] theorem shaped_int {x : Int} : SeqAt.shaped (.int x) = true := by rfl
@[simp] theorem eqB_int : eqB h (.int x) (.int y) = some (decide (x = y)) := by
  show (if SeqAt.shaped (.int x) = true ∧ SeqAt.shaped (.int y) = true then some (PyData.eqv (.int x) (.int y)) else none) = _
  rw [if_pos ⟨shaped_int, shaped_int⟩, eqv_int]
@[simp] theorem eqM_int : eqM (.int x) (.int y) h = .ok (.bl (decide (x = y))) h := by simp [eqM]
@[simp] theorem neM_int : neM (.int x) (.int y) h = .ok (.bl (!decide (x = y))) h := by simp [neM]
theorem eqB_str {x y : Str} (hx : SeqAt.shaped (.str x) = true) (hy : SeqAt.shaped (.str y) = true) : eqB h (.str x) (.str y) = some (x == y) := by
  show (if SeqAt.shaped (.str x) = true ∧ SeqAt.shaped (.str y) = true then some (PyData.eqv (.str x) (.str y)) else none) = _
  rw [if_pos ⟨hx, hy⟩]
  rfl
theorem eqM_str {x y : Str} (hx : SeqAt.shaped (.str x) = true) (hy : SeqAt.shaped (.str y) = true) : eqM (.str x) (.str y) h = .ok (.bl (x == y)) h := by
  unfold eqM
  rw [eqB_str hx hy]
@[simp] theorem isM_bl {n a b : Bool} : isM n (.bl a) (.bl b) h = .ok (.bl (xor n (a == b))) h := rfl
@[simp] theorem isM_nn {n : Bool} : isM n .non .non h = .ok (.bl (!n)) h := rfl
@[simp] theorem isM_in {n : Bool} : isM n (.int x) .non h = .ok (.bl n) h := rfl
@[simp] theorem isM_tn {n : Bool} : isM n (.tup ds) .non h = .ok (.bl n) h := rfl
@[simp] theorem isM_rn {n : Bool} {k : Nat} : isM n (.ref k) .non h = .ok (.bl n) h := rfl
@[simp] theorem isM_sn {n : Bool} {x : Str} : isM n (.str x) .non h = .ok (.bl n) h := rfl
@[simp] theorem lenF_tup : lenF [.tup ds] h = .ok (.int ds.length) h := rfl
@[simp] theorem lenF_fz : lenF [.fz ds] h = .ok (.int ds.length) h := rfl
theorem lenF_ref {xs : List D} (e : h[n]? = some (.lst xs)) : lenF [.ref n] h = .ok (.int xs.length) h := by unfold lenF; simp only [e]
@[simp] theorem absF_int : absF [.int x] h = .ok (.int (if x < 0 then -x else x)) h := rfl
@[simp] theorem intF_int : intF [.int x] h = .ok (.int x) h := rfl
@[simp] theorem intF_bl {b : Bool} : intF [.bl b] h = .ok (.int (if b then 1 else 0)) h := rfl
@[simp] theorem gcdF_int : gcdF [.int x, .int y] h = .ok (.int ((Nat.gcd x.natAbs y.natAbs : Nat) : Int)) h := rfl
@[simp] theorem listF_fz : listF [.fz ds] h = .ok (.ref h.length) (h ++ [.lst ds]) := rfl
@[simp] theorem listF_tup : listF [.tup ds] h = .ok (.ref h.length) (h ++ [.lst ds]) := rfl
theorem ixM_ref {xs : List D} (e : h[n]? = some (.lst xs)) : ixM (.ref n) (.int x) h = match atI xs x with
  | some d => .ok d h
  | none => .stuck := by unfold ixM; simp only [e] <;> rfl
@[simp] theorem ixM_tup : ixM (.tup ds) (.int x) h = match atI ds x with
  | some d => .ok d h
  | none => .stuck := rfl
@[simp] theorem ixM_fz : ixM (.fz ds) (.int x) h = match atI ds x with
  | some d => .ok d h
  | none => .stuck := rfl
theorem setL_ref {xs : List D} (e : h[n]? = some (.lst xs)) : setL (.ref n) (.int x) d h = (ixN xs.length x).map fun j => h.set n (.lst (xs.set j d)) := by unfold setL; simp only [e]
theorem atI_of {α : Type} {xs : List α} {k : Nat} {x : α} (e : xs[k]? = some x) : atI xs (k : Int) = some x := by
  unfold atI ixN
  have := (List.getElem?_eq_some_iff.mp e).1
  rw [if_pos (by omega), if_pos (by omega)]
  exact e
@[simp] theorem atI_0 {α : Type} {a : α} {xs : List α} : atI (a :: xs) 0 = some a := by
  unfold atI ixN
  rw [if_pos (by decide), if_pos (by simp only [List.length_cons]; omega)] <;> rfl
@[simp] theorem atI_1 {α : Type} {a b : α} {xs : List α} : atI (a :: b :: xs) 1 = some b := by
  unfold atI ixN
  rw [if_pos (by decide), if_pos (by simp only [List.length_cons]; omega)] <;> rfl
@[simp] theorem atI_2 {α : Type} {a b c : α} {xs : List α} : atI (a :: b :: c :: xs) 2 = some c := by
  unfold atI ixN
  rw [if_pos (by decide), if_pos (by simp only [List.length_cons]; omega)] <;> rfl
/-! forgetting -/
@[simp] theorem trunc_stuck : trunc h .stuck = .stuck := rfl
open Classical in
theorem trunc_ok {h' : IH} : trunc h (.ok d h') = if d.lt h.length = true ∧ h'.take h.length = h then .ok d h else .ok d h' := rfl
open Classical in
theorem trunc_exc {x : Exc} {h' : IH} : trunc h (.exc x h') = if x.lt h.length = true ∧ h'.take h.length = h then .exc x h else .exc x h' := rfl
theorem trunc_len {h' : IH} (e : h'.length = h.length) : trunc h (.ok d h') = .ok d h' := by
  rw [trunc_ok]
  split
  · rename_i c
    have c2 := c.2
    rw [← e, List.take_length] at c2
    rw [c2]
  · rfl
@[simp] theorem trunc_same : trunc h (.ok d h) = .ok d h := trunc_len rfl
@[simp] theorem trunc_excs {x : Exc} : trunc h (.exc x h) = .exc x h := by rw [trunc_exc]; split <;> rfl
theorem trunc_app {g : IH} (c : d.lt h.length = true) : trunc h (.ok d (h ++ g)) = .ok d h := by
  rw [trunc_ok, if_pos ⟨c, by simp⟩]
theorem trunc_new {h' : IH} {k : Nat} (c : h.length ≤ k) : trunc h (.ok (.ref k) h') = .ok (.ref k) h' := by
  rw [trunc_ok, if_neg]
  rintro ⟨c1, _⟩
  have := of_decide_eq_true c1
  omega
@[simp] theorem lt_int : (D.int x).lt n = true := rfl
@[simp] theorem lt_bl {b : Bool} : (D.bl b).lt n = true := rfl
@[simp] theorem lt_non : D.non.lt n = true := rfl
@[simp] theorem lt_str {z : Str} : (D.str z).lt n = true := rfl
@[simp] theorem lt_tup : (D.tup ds).lt n = D.ltL n ds := rfl
@[simp] theorem ltL_nil : D.ltL n [] = true := rfl
@[simp] theorem ltL_cons : D.ltL n (d :: ds) = (d.lt n && D.ltL n ds) := rfl
end
end Z
/-! Z12: comprehensions of one clause; more built-in functions; in; slices; methods of lists; constants of the module. -/
namespace Z
open PySem PySem.Spec PyProof.Rows L2
/-! ### without the heap's own changes -/
section
variable {K : PySem.W.Frag} {ρ ρ' : Rho} {H H' : Hp}
structure Mon (ρ : Rho) (H : Hp) (ρ' : Rho) (H' : Hp) : Prop where
  get : ∀ (n : Nat) (a : Addr), ρ.as[n]? = some a → ρ'.as[n]? = some a
  tups : ∀ a xs, H a = some (.tup xs) → H' a = some (.tup xs)
  frzs : ∀ a o u, H a = some (.frz o u) → H' a = some (.frz o u)
theorem Mon.sqT (x : Mon ρ H ρ' H') {a : Addr} {vs : List V} (h : SqT K H a vs) : SqT K H' a vs := by
  rcases h with (h | ⟨o, h⟩) | h
  · exact .inl (.inl (x.tups _ _ h))
  · exact .inl (.inr ⟨o, x.frzs _ _ _ h⟩)
  · exact .inr h
theorem Mon.sqF (x : Mon ρ H ρ' H') {a : Addr} {vs : List V} (h : SqF K H a vs) : SqF K H' a vs := by
  rcases h with ⟨o, h⟩ | h
  · exact .inl ⟨o, x.frzs _ _ _ h⟩
  · exact .inr h
mutual
theorem RepV.mon (x : Mon ρ H ρ' H') : ∀ (d : D) (v : V), RepV K ρ H d v → RepV K ρ' H' d v
  | .non, _, h => by cases h; exact .non
  | .bl _, _, h => by cases h; exact .bl _
  | .int _, _, h => by cases h; exact .int _
  | .str _, _, h => by cases h; exact .str _
  | .tup ds, _, h => by
    cases h with
    | tup h1 h2 => exact .tup (x.sqT h1) (RepL.mon x ds _ h2)
  | .ref n, _, h => by
    cases h with
    | ref h1 => exact .ref (x.get _ _ h1)
  | .fz ds, _, h => by
    cases h with
    | fz h1 h2 => exact .fz (x.sqF h1) (RepL.mon x ds _ h2)
  | .xv, _, h => by cases h
theorem RepL.mon (x : Mon ρ H ρ' H') : ∀ (ds : List D) (vs : List V), RepL K ρ H ds vs → RepL K ρ' H' ds vs
  | [], _, h => by cases h; exact .nil
  | d :: ds, _, h => by
    cases h with
    | cons h1 h2 => exact .cons (RepV.mon x d _ h1) (RepL.mon x ds _ h2)
end
theorem RepF.mon (x : Mon ρ H ρ' H') : ∀ {ds : List (Str × D)} {vs : List (Str × V)}, RepF K ρ H ds vs → RepF K ρ' H' ds vs
  | _, _, .nil => .nil
  | _, _, .cons r t => .cons (RepV.mon x _ _ r) (RepF.mon x t)
theorem RepK.mon (x : Mon ρ H ρ' H') : ∀ {ds : List (L2.Key × D)} {vs : List (L2.Key × V)}, RepK K ρ H ds vs → RepK K ρ' H' ds vs
  | _, _, .nil => .nil
  | _, _, .cons r t => .cons (RepV.mon x _ _ r) (RepK.mon x t)
theorem RepT.mon (x : Mon ρ H ρ' H') : ∀ {ds : List (List Int × D)} {vs : List (List Int × Addr × Value)}, RepT K ρ H ds vs → RepT K ρ' H' ds vs
  | _, _, .nil => .nil
  | _, _, .cons a r u t => .cons (x.sqT a) (RepV.mon x _ _ r) u (RepT.mon x t)
theorem RepO.mon (x : Mon ρ H ρ' H') {a : Addr} (ha : H' a = H a) : ∀ {o : IO}, RepO K ρ H a o → RepO K ρ' H' a o
  | .lst xs, ⟨vs, e, r⟩ => ⟨vs, ha.trans e, r.mon x⟩
  | .dik _, ⟨m, e, r⟩ => ⟨m, ha.trans e, r.mon x⟩
  | .dit _, ⟨o, xs, e, t, r⟩ => ⟨o, xs, ha.trans e, t, r.mon x⟩
  | .ins _ _, ⟨dx, vs, e, r⟩ => ⟨dx, vs, ha.trans e, r.mon x⟩
variable {ih : IH} {a : Addr} {us vs : List V}
/-- a list aside is written -/
theorem Mon.put (hl : H a = some (.lst us)) : Mon ρ H ρ (upd H a (.lst vs)) := ⟨fun _ _ h => h, fun b u e => by rw [upd_ne (by rintro rfl; rw [hl] at e; cases e)]; exact e, fun b u v e => by rw [upd_ne (by rintro rfl; rw [hl] at e; cases e)]; exact e⟩
theorem RelH.put (r : RelH K ρ ih H) (hl : H a = some (.lst us)) (ha : a ∉ ρ.as) : RelH K ρ ih (upd H a (.lst vs)) :=
  ⟨r.len, r.nd, fun n b o e1 e2 => (r.obj n b o e1 e2).mon (Mon.put hl) (upd_ne (by rintro rfl; exact ha (List.mem_of_getElem? e1)))⟩
/-- .. and is made one of ours -/
theorem RelH.own (r : RelH K ρ ih H) (hl : H a = some (.lst vs)) (ha : a ∉ ρ.as) {ds : List D} (hr : RepL K ρ H ds vs) : RelH K ⟨ρ.as ++ [a]⟩ (ih ++ [.lst ds]) H := by
  have m : Mon ρ H ⟨ρ.as ++ [a]⟩ H := ⟨fun n b e => by
    show (ρ.as ++ [a])[n]? = some b
    rw [List.getElem?_append_left (List.getElem?_eq_some_iff.mp e).1]; exact e, fun _ _ e => e, fun _ _ _ e => e⟩
  refine ⟨by simp [r.len], List.nodup_append.mpr ⟨r.nd, by simp, fun b hb c hc => by rw [List.mem_singleton.mp hc]; rintro rfl; exact ha hb⟩, fun n b o e1 e2 => ?_⟩
  by_cases hn : n < ih.length
  · have e1 : (ρ.as ++ [a])[n]? = some b := e1
    rw [List.getElem?_append_left (by rw [r.len]; exact hn)] at e1
    rw [List.getElem?_append_left hn] at e2
    exact (r.obj n b o e1 e2).mon m rfl
  · have hl2 : n < (ih ++ [IO.lst ds]).length := (List.getElem?_eq_some_iff.mp e2).1
    have en : n = ih.length := by simp at hl2; omega
    subst en
    have q1 : (ρ.as ++ [a])[ih.length]? = some a := by rw [← r.len]; simp
    have e1' : (ρ.as ++ [a])[ih.length]? = some b := e1
    rw [q1] at e1'; cases e1'
    have q2 : (ih ++ [IO.lst ds])[ih.length]? = some (.lst ds) := by simp
    rw [q2] at e2; cases e2
    exact ⟨vs, hl, hr.mon m⟩
end
/-! ### comprehensions -/
def wipeE : Ev → List Nat → Ev
  | e, [] => e
  | e, v :: vs => (wipeE e vs).set v none
theorem Rel.wipe {K : PySem.W.Frag} {xp : Option XP} {ρ : Rho} {env : Ev} {ih : IH} {σ : L2.St} {H : Hp} (r : Rel K xp ρ env ih σ H) : ∀ vs : List Nat, Rel K xp ρ (wipeE env vs) ih (L2.wipe σ vs) H
  | [] => r
  | v :: vs => (r.wipe vs).unset v
theorem wipe_set {σ : L2.St} {i : Nat} {o : Option V} : ∀ {vs : List Nat}, i ∈ vs → L2.wipe (σ.set i o) vs = L2.wipe σ vs
  | v :: vs, h => by
    show (L2.wipe (σ.set i o) vs).set v none = (L2.wipe σ vs).set v none
    by_cases hv : i ∈ vs
    · rw [wipe_set hv]
    · have : v = i := by
        rcases List.mem_cons.mp h with z | z
        · exact z.symm
        · exact absurd z hv
      subst this
      have aux : ∀ (ws : List Nat), (L2.wipe (σ.set v o) ws).set v none = (L2.wipe σ ws).set v none := fun ws => by
        induction ws with
        | nil => show ((σ.set v o).set v none) = σ.set v none; rw [List.set_set]
        | cons w ws ih =>
          show ((L2.wipe (σ.set v o) ws).set w none).set v none = ((L2.wipe σ ws).set w none).set v none
          by_cases c : w = v
          · subst c; rw [List.set_set, List.set_set, ih]
          · rw [List.set_comm _ _ c, List.set_comm _ _ c, ih]
      exact aux vs
theorem wipe_get {σ : L2.St} {j : Nat} : ∀ {vs : List Nat}, (L2.wipe σ vs)[j]? = if j ∈ vs then (σ[j]?).map (fun _ => none) else σ[j]?
  | [] => by simp [L2.wipe]
  | v :: vs => by
    show ((L2.wipe σ vs).set v none)[j]? = _
    rw [List.getElem?_set, wipe_get (vs := vs), L2.wipe_length]
    by_cases h : v = j
    · subst h
      by_cases hl : v < σ.length
      · simp [hl]
      · simp [hl, List.getElem?_eq_none_iff.mpr (Nat.le_of_not_lt hl)]
    · simp [h, Ne.symm h]
theorem wipe_idem {σ : L2.St} {vs : List Nat} : L2.wipe (L2.wipe σ vs) vs = L2.wipe σ vs := List.ext_getElem? fun j => by
  rw [wipe_get, wipe_get]
  by_cases h : j ∈ vs
  · simp [h, Function.comp_def]
  · simp [h]
abbrev Fam := Shared → Hp → Addr → List (Str × Addr) → List Addr → Cx
/-- the blocks of a comprehension -/
abbrev Blk (X : Cx) (scope : Scope) : Fam := fun s H C cl fp => X.blk s H scope (compEnvC scope cl C X.env) fp
/-- a target in every block: it touches the own slots alone -/
def SGF (xp : Option XP) (K : PySem.W.Frag) (B : Fam) (vs : List Nat) (tg : Expr) (g : MG) : Prop := ∃ t, (∀ s H C cl fp, PG (B s H C cl fp) tg t) ∧
  ∀ ρ env ih σ H Q d v env', Rel K xp ρ env ih σ H → RepV K ρ H d v → g d env = some env' → (∀ σ', Rel K xp ρ env' ih σ' H → L2.wipe σ' vs = L2.wipe σ vs → Q σ' H) → t v σ H Q
def SGsF (xp : Option XP) (K : PySem.W.Frag) (B : Fam) (vs : List Nat) (tgs : List Expr) (g : MGs) : Prop := ∃ t, (∀ s H C cl fp, PGs (B s H C cl fp) tgs t) ∧
  ∀ ρ env ih σ H Q ds us env', Rel K xp ρ env ih σ H → RepL K ρ H ds us → g ds env = some env' → (∀ σ', Rel K xp ρ env' ih σ' H → L2.wipe σ' vs = L2.wipe σ vs → Q σ' H) → t us σ H Q
section
variable {xp : Option XP} {X : Cx} {scope : Scope} {vs : List Nat} {pos : Pos}
theorem gf_name {i : Nat} {x : Str} (h : ∀ s H C cl fp, PG (Blk X scope s H C cl fp) (.Name x pos) (gName i)) (hi : i ∈ vs) : SGF xp X.K (Blk X scope) vs (.Name x pos) (gnameM i) := ⟨_, h, fun ρ env ih σ H Q d v env' rl rv e q => by
  cases e
  exact q _ (rl.set i rv) (wipe_set hi)⟩
theorem gsf_nil : SGsF xp X.K (Blk X scope) vs [] gnilM := ⟨_, fun _ _ _ _ _ => pgs_nil, fun ρ env ih σ H Q ds us env' rl rv e q => by
  cases rv with
  | nil => cases e; exact ⟨rfl, q σ rl rfl⟩
  | cons _ _ => cases e⟩
theorem gsf_cons {t : Expr} {ts : List Expr} {g : MG} {gs : MGs} (A : SGF xp X.K (Blk X scope) vs t g) (B : SGsF xp X.K (Blk X scope) vs ts gs)
    (hs : ∀ s H C cl fp, (assignEach (t :: ts) (Blk X scope s H C cl fp).env).map (·.2) = assign t (Blk X scope s H C cl fp).env :: (assignEach ts (Blk X scope s H C cl fp).env).map (·.2) := by intros; rfl) : SGsF xp X.K (Blk X scope) vs (t :: ts) (gconsM g gs) := by
  obtain ⟨ta, pa, ha⟩ := A
  obtain ⟨tb, pb, hb⟩ := B
  refine ⟨_, fun s H C cl fp => pgs_cons (pa s H C cl fp) (pb s H C cl fp) (hs s H C cl fp), fun ρ env ih σ H Q ds us env' rl rv e q => ?_⟩
  cases rv with
  | nil => cases e
  | cons r t =>
    obtain ⟨env1, e1, e2⟩ := Option.bind_eq_some_iff.mp e
    exact ⟨_, _, rfl, ha ρ env ih σ H _ _ _ env1 rl r e1 fun σ1 r1 w1 => hb ρ env1 ih σ1 H Q _ _ env' r1 t e2 fun σ2 r2 w2 => q σ2 r2 (w2.trans w1)⟩
theorem gf_tup {es : List Expr} {k n : Nat} {gs : MGs} (hc : X.calm = true) (h : SGsF xp X.K (Blk X scope) vs es gs) (hn : ∀ s H C cl fp, (assignEach es (Blk X scope s H C cl fp).env).length = n := by intros; rfl)
    (hst : ∀ s H C cl fp, (assignEach es (Blk X scope s H C cl fp).env).findIdx? (·.1) = none := by intros; rfl) : SGF xp X.K (Blk X scope) vs (.Tuple es k pos) (gtupM n gs) := by
  obtain ⟨ta, pa, ha⟩ := h
  refine ⟨gTup X.K n ta, fun s H C cl fp => pg_tup (X := Blk X scope s H C cl fp) hc (pa s H C cl fp) (hn s H C cl fp) (hst s H C cl fp), fun ρ env ih σ H Q d v env' rl rv e q => ?_⟩
  cases rv with
  | tup h1 h2 =>
    have e : (if _ then _ else _) = some env' := e
    split at e
    · rename_i c
      exact ⟨_, _, rfl, h1, by rw [← h2.length]; exact c, ha ρ env ih σ H Q _ _ env' rl h2 e q⟩
    · cases e
  | _ => cases e
/-- the reading that a meaning has, where nothing may be raised -/
def canE (K : PySem.W.Frag) (mg : Str → Option Value) (xp : Option XP) (m : ME) : TE := fun σ H Q => ∃ ρ env ih, Rel K xp ρ env ih σ H ∧ PostE K mg (fun _ _ _ _ => False) ρ σ H Q (m env ih)
def canT (K : PySem.W.Frag) (mg : Str → Option Value) (xp : Option XP) (m : MT) : TT := fun σ H Q => ∃ ρ env ih, Rel K xp ρ env ih σ H ∧ PostT K mg (fun _ _ _ _ => False) ρ σ H Q (m env ih)
theorem SE.can {Y : Cx} {e : Expr} {m : ME} (S : SE xp Y e m) : PE Y e (canE Y.K Y.mg xp m) := by
  obtain ⟨t, pt, ht⟩ := S (fun _ _ _ _ => False) takes0
  exact ⟨fun pins s σ H Q I ⟨ρ, env, ih, rl, post⟩ => pt.run pins s σ H Q I (ht ρ env ih σ H Q rl post)⟩
theorem ST.can {Y : Cx} {e : Expr} {m : MT} (S : ST xp Y e m) : PT Y e (canT Y.K Y.mg xp m) := by
  obtain ⟨t, pt, ht⟩ := S (fun _ _ _ _ => False) takes0
  exact ⟨fun pins s σ H Q I ⟨ρ, env, ih, rl, post⟩ => pt.run pins s σ H Q I (ht ρ env ih σ H Q rl post)⟩
/-- the tests of a clause -/
def STF (xp : Option XP) (K : PySem.W.Frag) (mg : Str → Option Value) (B : Fam) (ifs : List Expr) (m : MT) : Prop := ∃ t, (∀ s H C cl fp, PTs (B s H C cl fp) ifs t) ∧
  ∀ ρ env ih σ H Q, Rel K xp ρ env ih σ H → PostT K mg (fun _ _ _ _ => False) ρ σ H Q (m env ih) → t σ H Q
def yesM : MT := fun _ h => .ok true h
theorem tf_nil : STF xp X.K X.mg (Blk X scope) [] yesM := ⟨_, fun _ _ _ _ _ => pts_nil, fun ρ env ih σ H Q rl post => post ρ H .refl rl.hp⟩
/-! the items made -/
def lcS (g : MG) (mt : MT) (me : ME) (env : Ev) : List D → IH → R (List D)
  | [], h => .ok [] h
  | d :: ds, h => match g d env with
    | none => .stuck
    | some e => (mt e h).bindG (fun _ _ => .stuck) .stuck fun b h => if b = true then (me e h).bindG (fun _ _ => .stuck) .stuck fun y h => (lcS g mt me env ds h).bind fun ys h => .ok (y :: ys) h else lcS g mt me env ds h
def lcV (g : MG) (mt : MT) (me : ME) (env : Ev) (view : IH → Option (List D)) : Nat → Nat → IH → R (List D)
  | 0, _, _ => .stuck
  | n + 1, i, h => match view h with
    | none => .stuck
    | some ds => match ds[i]? with
      | none => .ok [] h
      | some d => match g d env with
        | none => .stuck
        | some e => (mt e h).bindG (fun _ _ => .stuck) .stuck fun b h => if b = true then (me e h).bindG (fun _ _ => .stuck) .stuck fun y h => (lcV g mt me env view n (i + 1) h).bind fun ys h => .ok (y :: ys) h else lcV g mt me env view n (i + 1) h
/-- the most items that a comprehension walks -/
def MOST : Nat := 16777215
def lcM (mi : MI) (own : List Nat) (g : MG) (mt : MT) (me : ME) : ME := fun env h => (mi env h).bind fun s h => match s with
  | .snap ds => if ds.length ≤ MOST then (lcS g mt me (wipeE env own) ds h).bindG (fun _ _ => .stuck) .stuck fun ys h => newL h ys else .stuck
  | .live v => (lcV g mt me (wipeE env own) v MOST 0 h).bindG (fun _ _ => .stuck) .stuck fun ys h => newL h ys
/-- what is wanted of the items still to come -/
def Rest (K : PySem.W.Frag) (mg : Str → Option Value) (W : WX) (ρ : Rho) (σ : L2.St) (H : Hp) (Q : VK) (acc : List D) (r : R (List D)) : Prop := match r with
  | .ok ys h => ∀ ρ' v H', Ext ρ H ρ' H' → RelH K ρ' (h ++ [.lst (acc ++ ys)]) H' → RepV K ρ' H' (.ref h.length) v → Q v H'
  | _ => False
theorem Rest.cons {K : PySem.W.Frag} {mg : Str → Option Value} {W : WX} {ρ : Rho} {σ : L2.St} {H : Hp} {Q : VK} {acc : List D} {y : D} : ∀ {r : R (List D)}, Rest K mg W ρ σ H Q acc (r.bind fun ys h => .ok (y :: ys) h) → Rest K mg W ρ σ H Q (acc ++ [y]) r
  | .ok ys h, p => by
    have p' : ∀ ρ' v H', Ext ρ H ρ' H' → RelH K ρ' (h ++ [.lst (acc ++ (y :: ys))]) H' → RepV K ρ' H' (.ref h.length) v → Q v H' := p
    show ∀ ρ' v H', Ext ρ H ρ' H' → RelH K ρ' (h ++ [.lst (acc ++ [y] ++ ys)]) H' → RepV K ρ' H' (.ref h.length) v → Q v H'
    rw [List.append_assoc]
    exact p'
  | .exc _ _, p => p
  | .stuck, p => p
/-- a turn of a comprehension -/
theorem lc_turn {W : WX} {tg : TG} {tt : TT} {g : MG} {mt : MT} {me : ME} {ρ0 ρ : Rho} {env : Ev} {ih : IH} {σ : L2.St} {H0 H : Hp} {Q : VK} {acc : List D} {av : List V} {D' : Addr} {d : D} {v : V} {k : IH → R (List D)} {N : Hp → Prop} {i : Nat}
    (hg : ∀ ρ env ih σ H Q d v env', Rel X.K xp ρ env ih σ H → RepV X.K ρ H d v → g d env = some env' → (∀ σ', Rel X.K xp ρ env' ih σ' H → L2.wipe σ' vs = L2.wipe σ vs → Q σ' H) → tg v σ H Q)
    (ht : ∀ ρ env ih σ H Q, Rel X.K xp ρ env ih σ H → PostT X.K X.mg (fun _ _ _ _ => False) ρ σ H Q (mt env ih) → tt σ H Q)
    (rl : Rel X.K xp ρ env ih (L2.wipe σ vs) H) (x0 : Ext ρ0 H0 ρ H) (hD0 : H0 D' = none) (hD : H D' = some (.lst av)) (hDρ : D' ∉ ρ.as) (ra : RepL X.K ρ H acc av) (hi : acc.length ≤ i) (hm : i < MOST) (rv : RepV X.K ρ H d v)
    (post : Rest X.K X.mg W ρ0 σ H0 Q acc (match g d env with
      | none => .stuck
      | some e => (mt e ih).bindG (fun _ _ => .stuck) .stuck fun b h => if b = true then (me e h).bindG (fun _ _ => .stuck) .stuck fun y h => (k h).bind fun ys h => .ok (y :: ys) h else k h))
    (hN : ∀ ρ ih H acc av, Ext ρ0 H0 ρ H → RelH X.K ρ ih H → H D' = some (.lst av) → D' ∉ ρ.as → RepL X.K ρ H acc av → acc.length ≤ i + 1 → Rest X.K X.mg W ρ0 σ H0 Q acc (k ih) → N H) 
    (keepE : ∀ {ρ' : Rho} {H' : Hp}, Ext ρ H ρ' H' → D' ∉ ρ'.as ∧ H' D' = some (.lst av)) :
    tg v (L2.wipe σ vs) H fun σ2 H2 => L2.wipe σ2 vs = L2.wipe σ vs ∧ tt σ2 H2 fun b H3 => if b = true then canE X.K X.mg xp me σ2 H3 fun y H4 => ∃ acc, H4 D' = some (.lst acc) ∧ acc.length < sizeLine ∧ N (upd H4 D' (.lst (acc ++ [y]))) else N H3 := by
  split at post
  · exact post.elim
  · rename_i e q
    refine hg ρ env ih _ H _ d v e rl rv q fun σ1 r1 w1 => ⟨w1.trans wipe_idem, ht ρ e ih σ1 H _ r1 ?_⟩
    revert post
    cases hmt : mt e ih with
    | exc x h => exact fun post => post.elim
    | stuck => exact fun post => post.elim
    | ok b h1 =>
      intro post ρ1 H1 x1 rh1
      obtain ⟨hD1, hv1⟩ := keepE x1
      cases b with
      | false => exact hN ρ1 h1 H1 acc av (x0.trans x1) rh1 hv1 hD1 (ra.ext x1) (by omega) post
      | true =>
        have rl1 := r1.next x1 rh1
        refine ⟨ρ1, e, h1, rl1, ?_⟩
        have post : Rest X.K X.mg W ρ0 σ H0 Q acc ((me e h1).bindG (fun _ _ => .stuck) .stuck fun y h => (k h).bind fun ys h => .ok (y :: ys) h) := post
        revert post
        cases hme : me e h1 with
        | exc x h => exact fun post => post.elim
        | stuck => exact fun post => post.elim
        | ok y h2 =>
          intro post ρ2 u H2 x2 rh2 ru
          obtain ⟨hD2, hv2⟩ := keepE (x1.trans x2)
          have ra2 := ra.ext (x1.trans x2)
          refine ⟨av, hv2, by rw [← ra.length, sizeLine_eq]; unfold MOST at hm; omega, ?_⟩
          have x3 : Ext ρ0 H0 ρ2 H2 := (x0.trans x1).trans x2
          refine hN ρ2 h2 _ (acc ++ [y]) (av ++ [u]) ⟨x3.pre, x3.new, fun b o eb hb => ?_, fun b o eb => ?_, fun b o w eb => ?_, fun b o eb => ?_⟩ (rh2.put hv2 hD2) upd_same hD2 ((ra2.append (.cons ru .nil)).mon (Mon.put hv2)) (by simp; omega) (Rest.cons post)
          · rw [upd_ne (by rintro rfl; rw [hD0] at eb; cases eb)]; exact x3.keep b o eb hb
          · rw [upd_ne (by rintro rfl; rw [hD0] at eb; cases eb)]; exact x3.tups b o eb
          · rw [upd_ne (by rintro rfl; rw [hD0] at eb; cases eb)]; exact x3.frzs b o w eb
          · rw [upd_ne (by rintro rfl; rw [hD0] at eb; cases eb)]; exact x3.xds b o eb
theorem Rest.base {K : PySem.W.Frag} {mg : Str → Option Value} {W W' : WX} {ρ ρ1 : Rho} {σ : L2.St} {H H1 : Hp} {Q : VK} (x : Ext ρ H ρ1 H1) : ∀ {r : R (List D)}, PostE K mg W ρ σ H Q (r.bindG (fun _ _ => .stuck) .stuck fun ys h => newL h ys) → Rest K mg W' ρ1 σ H1 Q [] r
  | .ok _ _, p => fun ρ' v H' y rl rv => p ρ' v H' (x.trans y) rl rv
  | .exc _ _, p => p
  | .stuck, p => p
theorem Rest.fin {K : PySem.W.Frag} {mg : Str → Option Value} {W : WX} {ρ0 ρ : Rho} {σ : L2.St} {H0 H : Hp} {Q : VK} {acc : List D} {av : List V} {D' : Addr} {ih : IH} (p : Rest K mg W ρ0 σ H0 Q acc (.ok [] ih)) (x : Ext ρ0 H0 ρ H) (rh : RelH K ρ ih H)
    (hD0 : H0 D' = none) (hD : H D' = some (.lst av)) (hDρ : D' ∉ ρ.as) (ra : RepL K ρ H acc av) : Q (.ref D') H := by
  refine p ⟨ρ.as ++ [D']⟩ (.ref D') H ⟨x.pre.trans (List.prefix_append _ _), fun a z => ?_, x.keep, x.tups, x.frzs, x.xds⟩ ?_ (.ref ?_)
  · rcases List.mem_append.mp z with z | z
    · exact x.new a z
    · rw [List.mem_singleton.mp z]; exact .inr hD0
  · rw [List.append_nil]; exact rh.own hD hDρ ra
  · show (ρ.as ++ [D'])[ih.length]? = some D'
    rw [← rh.len]; simp
theorem keep_of {ρ : Rho} {H : Hp} {D' : Addr} {av : List V} (hD : H D' = some (.lst av)) (hDρ : D' ∉ ρ.as) {ρ' : Rho} {H' : Hp} (x : Ext ρ H ρ' H') : D' ∉ ρ'.as ∧ H' D' = some (.lst av) :=
  ⟨fun z => (x.new _ z).elim hDρ (fun q => by rw [hD] at q; cases q), x.keep _ _ hD hDρ⟩
theorem lc_red {W : WX} {wi : TI} {tG : TG} {tT : TT} {mi : MI} {g : MG} {mt : MT} {me : ME} {ρ : Rho} {env : Ev} {ih : IH} {σ : L2.St} {H : Hp} {Q : VK}
    (hi : ∀ ρ env ih σ H Q, Rel X.K xp ρ env ih σ H → PostI X.K X.mg W ρ σ H Q (mi env ih) → wi σ H Q)
    (hG : ∀ ρ env ih σ H Q d v env', Rel X.K xp ρ env ih σ H → RepV X.K ρ H d v → g d env = some env' → (∀ σ', Rel X.K xp ρ env' ih σ' H → L2.wipe σ' vs = L2.wipe σ vs → Q σ' H) → tG v σ H Q)
    (hT : ∀ ρ env ih σ H Q, Rel X.K xp ρ env ih σ H → PostT X.K X.mg (fun _ _ _ _ => False) ρ σ H Q (mt env ih) → tT σ H Q)
    (rl : Rel X.K xp ρ env ih σ H) (post : PostE X.K X.mg W ρ σ H Q (lcM mi vs g mt me env ih)) : tLc wi tG tT (canE X.K X.mg xp me) vs σ H Q := by
  refine hi ρ env ih σ H _ rl ?_
  unfold lcM at post
  revert post
  cases mi env ih with
  | exc x h => exact fun post => post
  | stuck => exact fun post => post
  | ok s h1 =>
    intro post ρ1 J H1 x1 r1 it D' hD'
    have rw1 : Rel X.K xp ρ1 (wipeE env vs) h1 (L2.wipe σ vs) H1 := (rl.wipe vs).next x1 r1
    have hDρ : D' ∉ ρ1.as := fun z => by
      obtain ⟨o, e⟩ := r1.ne_none z
      rw [hD'] at e; cases e
    cases s with
    | snap ds =>
      have post : PostE X.K X.mg W ρ σ H Q (if ds.length ≤ MOST then (lcS g mt me (wipeE env vs) ds h1).bindG (fun _ _ => .stuck) .stuck fun ys h => newL h ys else .stuck) := post
      split at post
      · rename_i hm
        have it : ItS X.K J ρ1 H1 ds := it
        refine ⟨fun i m H => ∃ ρ ih acc av, i + m = ds.length ∧ Ext ρ1 H1 ρ H ∧ RelH X.K ρ ih H ∧ H D' = some (.lst av) ∧ D' ∉ ρ.as ∧ RepL X.K ρ H acc av ∧ acc.length ≤ i ∧ Rest X.K X.mg W ρ1 σ H1 Q acc (lcS g mt me (wipeE env vs) (ds.drop i) ih), ⟨ds.length, ρ1, h1, [], [], by omega, Ext.fresh hD', r1.aside hD', upd_same, hDρ, .nil, Nat.zero_le _, Rest.base x1 post⟩, ?_⟩
        rintro i m H2 ⟨ρ2, ih2, acc, av, him, x2, r2, hD2, hn2, ra2, hl2, post2⟩
        cases hd : ds[i]? with
        | none =>
          have hge := List.getElem?_eq_none_iff.mp hd
          have e : i = ds.length := by omega
          rw [e, List.drop_length] at post2
          rw [e]
          exact .inl ⟨it.stop ρ2 H2 x2, Rest.fin post2 x2 r2 hD' hD2 hn2 ra2⟩
        | some d =>
          have hlt := (List.getElem?_eq_some_iff.mp hd).1
          obtain ⟨go, yl⟩ := it.go i d ρ2 H2 ih2 x2 r2 hd
          refine .inr ⟨go, fun H' => ∃ ρ ih acc av, Ext ρ1 H1 ρ H' ∧ RelH X.K ρ ih H' ∧ H' D' = some (.lst av) ∧ D' ∉ ρ.as ∧ RepL X.K ρ H' acc av ∧ acc.length ≤ i + 1 ∧ Rest X.K X.mg W ρ1 σ H1 Q acc (lcS g mt me (wipeE env vs) (ds.drop (i + 1)) ih),
            fun H' ⟨ρ', ih', acc', av', q1, q2, q3, q4, q5, q6, q7⟩ => ⟨ds.length - (i + 1), by omega, ρ', ih', acc', av', by omega, q1, q2, q3, q4, q5, q6, q7⟩, fun x H' y => ?_⟩
          obtain ⟨x3, r3, rv3⟩ := yl x H' y
          obtain ⟨hn3, hD3⟩ := keep_of hD2 hn2 x3
          have ed : ds.drop i = d :: ds.drop (i + 1) := by
            rw [List.drop_eq_getElem_cons hlt, (List.getElem?_eq_some_iff.mp hd).2]
          rw [ed] at post2
          exact lc_turn (X := X) (W := W) (k := fun h => lcS g mt me (wipeE env vs) (ds.drop (i + 1)) h) (N := fun H' => ∃ ρ ih acc av, Ext ρ1 H1 ρ H' ∧ RelH X.K ρ ih H' ∧ H' D' = some (.lst av) ∧ D' ∉ ρ.as ∧ RepL X.K ρ H' acc av ∧ acc.length ≤ i + 1 ∧ Rest X.K X.mg W ρ1 σ H1 Q acc (lcS g mt me (wipeE env vs) (ds.drop (i + 1)) ih)) (i := i) hG hT (rw1.next (x2.trans x3) r3) (x2.trans x3) hD' hD3 hn3 (ra2.ext x3) hl2 (by omega) rv3 post2
            (fun ρ ih H acc av a1 a2 a3 a4 a5 a6 a7 => ⟨ρ, ih, acc, av, a1, a2, a3, a4, a5, a6, a7⟩) (fun {ρ' H'} x => keep_of hD3 hn3 x)
      · exact post.elim
    | live v =>
      have post : PostE X.K X.mg W ρ σ H Q ((lcV g mt me (wipeE env vs) v MOST 0 h1).bindG (fun _ _ => .stuck) .stuck fun ys h => newL h ys) := post
      have it : ItV X.K J ρ1 H1 v := it
      refine ⟨fun i m H => ∃ ρ ih acc av, i + m = MOST ∧ Ext ρ1 H1 ρ H ∧ RelH X.K ρ ih H ∧ H D' = some (.lst av) ∧ D' ∉ ρ.as ∧ RepL X.K ρ H acc av ∧ acc.length ≤ i ∧ Rest X.K X.mg W ρ1 σ H1 Q acc (lcV g mt me (wipeE env vs) v m i ih), ⟨MOST, ρ1, h1, [], [], by omega, Ext.fresh hD', r1.aside hD', upd_same, hDρ, .nil, Nat.zero_le _, Rest.base x1 post⟩, ?_⟩
      rintro i m H2 ⟨ρ2, ih2, acc, av, him, x2, r2, hD2, hn2, ra2, hl2, post2⟩
      cases m with
      | zero => exact post2.elim
      | succ m =>
        have post2 : Rest X.K X.mg W ρ1 σ H1 Q acc (match v ih2 with
          | none => .stuck
          | some ds => match ds[i]? with
            | none => .ok [] ih2
            | some d => match g d (wipeE env vs) with
              | none => .stuck
              | some e => (mt e ih2).bindG (fun _ _ => .stuck) .stuck fun b h => if b = true then (me e h).bindG (fun _ _ => .stuck) .stuck fun y h => (lcV g mt me (wipeE env vs) v m (i + 1) h).bind fun ys h => .ok (y :: ys) h else lcV g mt me (wipeE env vs) v m (i + 1) h) := post2
        cases hv : v ih2 with
        | none => rw [hv] at post2; exact post2.elim
        | some ds =>
          rw [hv] at post2
          cases hd : ds[i]? with
          | none =>
            simp only [hd] at post2
            exact .inl ⟨it.stop i ρ2 H2 ih2 ds x2 r2 hv hd, Rest.fin post2 x2 r2 hD' hD2 hn2 ra2⟩
          | some d =>
            simp only [hd] at post2
            obtain ⟨go, yl⟩ := it.go i d ρ2 H2 ih2 ds x2 r2 hv hd
            refine .inr ⟨go, fun H' => ∃ ρ ih acc av, Ext ρ1 H1 ρ H' ∧ RelH X.K ρ ih H' ∧ H' D' = some (.lst av) ∧ D' ∉ ρ.as ∧ RepL X.K ρ H' acc av ∧ acc.length ≤ i + 1 ∧ Rest X.K X.mg W ρ1 σ H1 Q acc (lcV g mt me (wipeE env vs) v m (i + 1) ih),
              fun H' ⟨ρ', ih', acc', av', q1, q2, q3, q4, q5, q6, q7⟩ => ⟨m, by omega, ρ', ih', acc', av', by omega, q1, q2, q3, q4, q5, q6, q7⟩, fun x H' y => ?_⟩
            obtain ⟨x3, r3, rv3⟩ := yl x H' y
            obtain ⟨hn3, hD3⟩ := keep_of hD2 hn2 x3
            exact lc_turn (X := X) (W := W) (k := fun h => lcV g mt me (wipeE env vs) v m (i + 1) h) (N := fun H' => ∃ ρ ih acc av, Ext ρ1 H1 ρ H' ∧ RelH X.K ρ ih H' ∧ H' D' = some (.lst av) ∧ D' ∉ ρ.as ∧ RepL X.K ρ H' acc av ∧ acc.length ≤ i + 1 ∧ Rest X.K X.mg W ρ1 σ H1 Q acc (lcV g mt me (wipeE env vs) v m (i + 1) ih)) (i := i) hG hT (rw1.next (x2.trans x3) r3) (x2.trans x3) hD' hD3 hn3 (ra2.ext x3) hl2 (by omega) rv3 post2
              (fun ρ ih H acc av a1 a2 a3 a4 a5 a6 a7 => ⟨ρ, ih, acc, av, a1, a2, a3, a4, a5, a6, a7⟩) (fun {ρ' H'} x => keep_of hD3 hn3 x)
theorem s_lc {elt tg iter : Expr} {ifs : List Expr} {mi : MI} {g : MG} {mt : MT} {me : ME} {own : List (Str × Nat)} {vs : List Nat} (ho : own.map (·.2) = vs) (hc : X.calm = true) (hN : X.N.Nodup) (I : SI xp X tg iter mi) (ok : BlkOk X.N X.env.scope scope own)
    (G : SGF xp X.K (Blk X scope) vs tg g) (C : STF xp X.K X.mg (Blk X scope) ifs mt) (E : ∀ s H C cl fp, SE xp (Blk X scope s H C cl fp) elt me) (hs : ∀ x, foldedSetIterable iter X.env x = pure x := by intro _; rfl) :
    SE xp X (.ListComp elt [⟨tg, iter, ifs, 0⟩] scope pos) (lcM mi vs g mt me) := fun W tk => by
  subst ho
  obtain ⟨wi, pi, hi⟩ := I W tk
  obtain ⟨tG, pG, hG⟩ := G
  obtain ⟨tT, pT, hT⟩ := C
  refine ⟨tLc wi tG tT (canE X.K X.mg xp me) (own.map (·.2)), pe_lc hc hN pi ok pG pT (fun s H C cl fp => (E s H C cl fp).can) hs, fun ρ env ih σ H Q rl post => ?_⟩
  exact lc_red hi hG hT rl post
end
end Z
/-! Z13: all, any, isqrt, lcm, in, three names at once, slices, methods of lists. -/
namespace Z
open PySem PySem.Spec PyProof.Rows L2
section
variable {xp : Option XP} {X : Cx} {a b e : Expr} {es : List Expr} {ma mb : ME} {ms : MA} {pos : Pos}
/-! ### all, any -/
def lisOf (h : IH) : D → Option (List D)
  | .fz ds => some ds
  | .ref n => match h[n]? with
    | some (.lst ds) => some ds
    | _ => none
  | _ => none
def bls : List D → Option (List Bool)
  | [] => some []
  | d :: ds => match d, bls ds with
    | .bl b, some bs => some (b :: bs)
    | _, _ => none
def its' : List D → Option (List Int)
  | [] => some []
  | d :: ds => match d, its' ds with
    | .int b, some bs => some (b :: bs)
    | _, _ => none
theorem lisOf_ok {K : PySem.W.Frag} {ρ : Rho} {ih : IH} {H : Hp} (rl : RelH K ρ ih H) {d : D} {v : V} {ds : List D} (q : lisOf ih d = some ds) (r : RepV K ρ H d v) : ∃ a vs, v = .ref a ∧ SqL K H a vs ∧ RepL K ρ H ds vs := by
  cases r with
  | fz h1 h2 => cases q; exact ⟨_, _, rfl, h1.sq, h2⟩
  | @ref n a h1 =>
    have q' : (match ih[n]? with
      | some (.lst ds) => some ds
      | _ => none) = some ds := q
    split at q'
    · rename_i ds hn
      cases q'
      obtain ⟨vs, hv, r⟩ := rl.lst h1 hn
      exact ⟨a, vs, rfl, SqL.of hv, r⟩
    · cases q'
  | _ => cases q
theorem bls_ok {K : PySem.W.Frag} {ρ : Rho} {H : Hp} : ∀ {ds : List D} {vs : List V} {bs : List Bool}, bls ds = some bs → RepL K ρ H ds vs → vs = bs.map V.bl
  | [], _, _, e, .nil => by cases e; rfl
  | d :: ds, _, _, e, .cons r t => by
    unfold bls at e
    split at e
    · rename_i b bs h1
      cases e
      cases r
      rw [bls_ok h1 t]; rfl
    · cases e
theorem its_ok {K : PySem.W.Frag} {ρ : Rho} {H : Hp} : ∀ {ds : List D} {vs : List V} {bs : List Int}, its' ds = some bs → RepL K ρ H ds vs → vs = bs.map V.int
  | [], _, _, e, .nil => by cases e; rfl
  | d :: ds, _, _, e, .cons r t => by
    unfold its' at e
    split at e
    · rename_i b bs h1
      cases e
      cases r
      rw [its_ok h1 t]; rfl
    · cases e
def allF : MF := fun ds h => match ds with
  | [d] => match (lisOf h d).bind bls with
    | some bs => .ok (.bl (bs.all id)) h
    | none => .stuck
  | _ => .stuck
def sumF : MF := fun ds h => match ds with
  | [d] => match (lisOf h d).bind its' with
    | some bs => .ok (.int bs.sum) h
    | none => .stuck
  | _ => .stuck
theorem c_all (hc : X.calm = true) : SC X (.builtin "all") allF := ⟨_, cr_all hc, fun W ρ ih H σ Q ds vs rl rv post => by
  unfold allF at post
  split at post
  · cases rv with
    | cons q t =>
      cases t
      split at post
      · rename_i bs e
        obtain ⟨xs, e1, e2⟩ := Option.bind_eq_some_iff.mp e
        obtain ⟨a, vs, rfl, h1, h2⟩ := lisOf_ok rl e1 q
        exact ⟨a, bs, rfl, by rw [← bls_ok e2 h2]; exact h1, post ρ _ H .refl rl (.bl _)⟩
      · exact post.elim
  · exact post.elim⟩
theorem c_sum (hc : X.calm = true) : SC X (.builtin "sum") sumF := ⟨_, cr_sum hc, fun W ρ ih H σ Q ds vs rl rv post => by
  unfold sumF at post
  split at post
  · cases rv with
    | cons q t =>
      cases t
      split at post
      · rename_i bs e
        obtain ⟨xs, e1, e2⟩ := Option.bind_eq_some_iff.mp e
        obtain ⟨a, vs, rfl, h1, h2⟩ := lisOf_ok rl e1 q
        exact ⟨a, bs, rfl, by rw [← its_ok e2 h2]; exact h1, post ρ _ H .refl rl (.int _)⟩
      · exact post.elim
  · exact post.elim⟩
/-! ### isqrt, lcm -/
/-! ### in -/
def inB (h : IH) (d e : D) : Option Bool := match pd pdK h d, (lisOf h e).bind fun xs => pdL (pd pdK h) xs with
  | some p, some qs => if SeqAt.shaped p = true ∧ SeqAt.shaped (.list qs) = true then some (qs.any fun z => PyData.eqv z p) else none
  | _, _ => none
/-- a flat value -/
def vOf : D → Option V
  | .non => some .non
  | .bl b => some (.bl b)
  | .int i => some (.int i)
  | .str x => some (.str x)
  | _ => none
def vsOf : List D → Option (List V)
  | [] => some []
  | d :: ds => match vOf d, vsOf ds with
    | some v, some vs => some (v :: vs)
    | _, _ => none
def inT (d e : D) : Option Bool := match e with
  | .tup ds => match vOf d, vsOf ds with
    | some u, some us => some (inV u us)
    | _, _ => none
  | _ => none
/-- x in a tuple of data of any depth -/
def inBT (h : IH) (d e : D) : Option Bool := match e with
  | .tup xs => match pd pdK h d, pdL (pd pdK h) xs with
    | some p, some qs => if SeqAt.shaped p = true ∧ SeqAt.shaped (.tuple qs) = true then some (qs.any fun z => PyData.eqv z p) else none
    | _, _ => none
  | _ => none
def inM (neg : Bool) : MO := fun d e h => match inT d e with
  | some b => .ok (.bl (if neg = true then !b else b)) h
  | none => match inB h d e with
    | some b => .ok (.bl (if neg = true then !b else b)) h
    | none => match inBT h d e with
      | some b => .ok (.bl (if neg = true then !b else b)) h
      | none => .stuck
/-! ### a, b, c = x, y, z -/
/-! ### slices -/
abbrev MOp := Ev → IH → R (Option Int)
def SPo (xp : Option XP) (X : Cx) (e : Option Expr) (m : MOp) : Prop := ∀ W, Takes X W → ∃ t, PO X e t ∧
  ∀ ρ env ih σ H (Q : Option Int → Hp → Prop), Rel X.K xp ρ env ih σ H → (match m env ih with
    | .ok o ih => ∀ ρ' H', Ext ρ H ρ' H' → RelH X.K ρ' ih H' → Q o H'
    | .exc x ih => ∀ ρ' cls od H', Ext ρ H ρ' H' → RelH X.K ρ' ih H' → RepX X.K X.mg ρ' H' x cls od → W cls od σ H'
    | .stuck => False) → t σ H Q
def noneO : MOp := fun _ h => .ok none h
def someO (ma : ME) : MOp := fun env h => (ma env h).bindG .exc .stuck fun d h => match d with
  | .int i => .ok (some i) h
  | _ => .stuck
theorem so_none : SPo xp X none noneO := fun W tk => ⟨_, po_none, fun ρ env ih σ H Q rl post => post ρ H .refl rl.hp⟩
theorem so_some (A : SE xp X a ma) : SPo xp X (some a) (someO ma) := fun W tk => by
  obtain ⟨ta, pa, ha⟩ := A W tk
  refine ⟨_, po_some pa, fun ρ env ih σ H Q rl post => ha ρ env ih σ H _ rl ?_⟩
  unfold someO at post
  cases hm : ma env ih with
  | stuck => rw [hm] at post; exact post
  | exc x h => rw [hm] at post; exact post
  | ok d h =>
    rw [hm] at post
    intro ρ' v H' x rh rv
    cases d with
    | int i => cases rv; exact ⟨i, rfl, post ρ' H' x rh⟩
    | _ => exact post.elim
def cutD (xs : List D) (lo hi : Option Int) : List D := (xs.drop (HT.sIx xs.length 0 lo)).take (HT.sIx xs.length xs.length hi - HT.sIx xs.length 0 lo)
theorem RepL.take {K : PySem.W.Frag} {ρ : Rho} {H : Hp} : ∀ {ds : List D} {vs : List V} (n : Nat), RepL K ρ H ds vs → RepL K ρ H (ds.take n) (vs.take n)
  | _, _, 0, _ => .nil
  | _, _, _ + 1, .nil => .nil
  | _, _, n + 1, .cons r t => .cons r (RepL.take n t)
theorem RepL.drop {K : PySem.W.Frag} {ρ : Rho} {H : Hp} : ∀ {ds : List D} {vs : List V} (n : Nat), RepL K ρ H ds vs → RepL K ρ H (ds.drop n) (vs.drop n)
  | _, _, 0, r => r
  | _, _, _ + 1, .nil => .nil
  | _, _, n + 1, .cons _ t => RepL.drop n t
theorem RepL.cut {K : PySem.W.Frag} {ρ : Rho} {H : Hp} {ds : List D} {vs : List V} (r : RepL K ρ H ds vs) (lo hi : Option Int) : RepL K ρ H (cutD ds lo hi) (cutV vs lo hi) := by
  unfold cutD cutV
  rw [r.length]
  exact RepL.take _ (RepL.drop _ r)
theorem cut_whole {ds : List D} {lo hi : Option Int} (h : HT.sIx ds.length 0 lo = 0 ∧ HT.sIx ds.length ds.length hi = ds.length) : cutD ds lo hi = ds := by
  unfold cutD
  rw [h.1, h.2]
  simp
def slM (ma : ME) (ml mh : MOp) : ME := fun env h => (ma env h).bindG .exc .stuck fun d h => (ml env h).bindG .exc .stuck fun lo h => (mh env h).bindG .exc .stuck fun hi h => match d with
  | .tup ds => .ok (.tup (cutD ds lo hi)) h
  | _ => match lisOf h d with
    | some ds => newL h (cutD ds lo hi)
    | none => .stuck
theorem fstO {W : WX} {t : TO} {m : MOp} {ρ : Rho} {env : Ev} {ih : IH} {σ : L2.St} {H : Hp} {Q : VK} {f : Option Int → IH → R D} {Q' : Option Int → Hp → Prop}
    (h : ∀ ρ env ih σ H (Q : Option Int → Hp → Prop), Rel X.K xp ρ env ih σ H → (match m env ih with
      | .ok o ih => ∀ ρ' H', Ext ρ H ρ' H' → RelH X.K ρ' ih H' → Q o H'
      | .exc x ih => ∀ ρ' cls od H', Ext ρ H ρ' H' → RelH X.K ρ' ih H' → RepX X.K X.mg ρ' H' x cls od → W cls od σ H'
      | .stuck => False) → t σ H Q)
    (rl : Rel X.K xp ρ env ih σ H) (post : PostE X.K X.mg W ρ σ H Q ((m env ih).bindG .exc .stuck f)) (k : ∀ ρ1 o h1 H1, Ext ρ H ρ1 H1 → RelH X.K ρ1 h1 H1 → PostE X.K X.mg W ρ1 σ H1 Q (f o h1) → Q' o H1) : t σ H Q' := by
  refine h ρ env ih σ H _ rl ?_
  revert post
  cases m env ih with
  | ok o h1 => exact fun post ρ1 H1 x r => k ρ1 o h1 H1 x r (PostE.ext post x)
  | exc x h => exact fun post => post
  | stuck => exact fun post => post
theorem s_sl {lo hi : Option Expr} {ml mh : MOp} {p2 : Pos} (A : SE xp X a ma) (L : SPo xp X lo ml) (U : SPo xp X hi mh) : SE xp X (.Subscript a (.Slice lo hi none p2) pos) (slM ma ml mh) := fun W tk => by
  obtain ⟨ta, pa, ha⟩ := A W tk
  obtain ⟨tl, pl, hl⟩ := L W tk
  obtain ⟨tu, pu, hu⟩ := U W tk
  refine ⟨_, pe_slice (sl_list.or sl_tupA) pa pl pu, fun ρ env ih σ H Q rl post => ?_⟩
  refine fstE (ta := ta) ha rl (lkE (Q := Q)) post fun ρ1 d h1 v H1 e1 r1 p1 post => ?_
  have rl1 := rl.next e1 r1
  refine fstO (t := tl) hl rl1 post fun ρ2 lo h2 H2 e2 r2 post => ?_
  have rl2 := rl1.next e2 r2
  refine fstO (t := tu) hu rl2 post fun ρ3 hi h3 H3 e3 r3 post => ?_
  have p3 := p1.ext (e2.trans e3)
  split at post
  · cases p3 with
    | @tup b vs xs q1 q2 =>
      refine .inr ⟨b, vs, rfl, q1, fun w => ?_, fun _ p hp => ?_⟩
      · have z := post ρ3 (.ref b) H3 .refl r3
        rw [cut_whole (by rw [q2.length]; exact w)] at z
        exact z (.tup q1 q2)
      · exact post ρ3 _ _ (Ext.fresh hp) (r3.aside hp) (.tup (SqT.of upd_same) ((q2.cut lo hi).ext (Ext.fresh hp)))
  · split at post
    · rename_i xs q
      obtain ⟨b, vs, rfl, q1, q2⟩ := lisOf_ok r3 q p3
      refine .inl ⟨b, vs, rfl, q1, fun p hp => ?_⟩
      obtain ⟨ρ', x', rl', rv⟩ := alloc r3 hp (q2.cut lo hi)
      exact post ρ' _ _ x' rl' rv
    · exact post.elim
/-! ### methods of lists -/
abbrev MMt := D → List D → IH → R D
def SMt (X : Cx) (id : String) (m : MMt) : Prop := ∃ r, MtR X id r ∧ ∀ W ρ ih H σ Q d ds v vs, RelH X.K ρ ih H → RepV X.K ρ H d v → RepL X.K ρ H ds vs → PostE X.K X.mg W ρ σ H Q (m d ds ih) → r v vs H Q
def methM (m : MMt) (mo : ME) (ms : MA) : ME := fun env h => (mo env h).bindG .exc .stuck fun d h => match lisOf h d with
  | some _ => (ms env h).bindG .exc .stuck fun ds h => m d ds h
  | none => .stuck
variable {o : Expr} {mo : ME} {name : Str} {apos cpos : Pos} {id : String} {m : MMt}
theorem s_meth (slot : Slot "list" name id) (hty : typeOf (.builtin id) = pure (.type "method_descriptor")) (M : SMt X id m) (O : SE xp X o mo) (A : SA xp X (e :: es) ms)
    (hbase : attributeBase o name X.env (eval o X.env) = eval o X.env := by rfl)
    (hfew : ((backTo cpos (starEach (e :: es) X.env)).all (fun x => !x.1) && (backToKw cpos (keywordEach [] X.env)).all (fun x => x.1.isSome)
      && decide ((e :: es).length + ([] : List Keyword).length + (if ([] : List Keyword).isEmpty then 0 else 1) < 30)) = true := by rfl)
    (hline : (apos.endLine == cpos.line) = true := by rfl) (hs : starEach (e :: es) X.env = (false, eval e X.env) :: starEach es X.env := by rfl) (hplain : (backTo cpos (starEach es X.env)).any (·.1) = false := by rfl) :
    SE xp X (.Call (.Attribute o name apos) (e :: es) [] cpos) (methM m mo ms) := fun W tk => by
  obtain ⟨to, po, ho⟩ := O W tk
  obtain ⟨ta, pa, ha⟩ := A W tk
  obtain ⟨r, hr, hm⟩ := M
  refine ⟨_, pe_bm PySem.F.plainAttrs_list slot hty hr po pa hbase hfew hline hs hplain, fun ρ env ih σ H Q rl post => ?_⟩
  refine fstE (ta := to) ho rl (lkE (Q := Q)) post fun ρ1 d h1 v H1 e1 r1 p1 post => ?_
  split at post
  · rename_i xs q
    obtain ⟨b, us, rfl, q1, q2⟩ := lisOf_ok r1 q p1
    refine ⟨.inl ⟨rfl, us, q1⟩, ?_⟩
    exact fstA (ta := ta) ha (rl.next e1 r1) (lkE (Q := Q)) post fun ρ2 ds h2 vs H2 e2 r2 p2 post => hm W ρ2 h2 H2 σ Q d ds _ vs r2 (p1.ext e2) p2 post
  · exact post.elim
def appendF : MMt := fun d ds h => match d, ds with
  | .ref n, [e] => match h[n]? with
    | some (.lst xs) => if xs.length < sizeLine then .ok .non (h.set n (.lst (xs ++ [e]))) else .stuck
    | _ => .stuck
  | _, _ => .stuck
theorem m_append : SMt X "list.append" appendF := ⟨_, mt_append, fun W ρ ih H σ Q d ds v vs rl rv rs post => by
  unfold appendF at post
  split at post
  · cases rs with
    | cons q t =>
      cases t
      cases rv with
      | @ref n a h1 =>
        split at post
        · rename_i xs hn
          split at post
          · rename_i c
            obtain ⟨us, hv, r⟩ := rl.lst h1 hn
            obtain ⟨x', rl'⟩ := rewrite rl h1 hv (r.append (.cons q .nil))
            exact ⟨a, us, _, rfl, rfl, hv, by rw [← r.length]; exact c, post ρ _ _ x' rl' .non⟩
          · exact post.elim
        · exact post.elim
  · exact post.elim⟩
theorem FS.ali {P : Program} {w : World} {K : PySem.W.Frag} {mg : Str → Option Value} {base : Heap} {x y : Str} {k n : Nat} {F : MF} {u : Value} (f : FS P w K mg base y k n F) (hy : mg y = some u) (hx : mg x = some u) : FS P w K mg base x k n F := by
  obtain ⟨a, fd, ps, h1, h2⟩ := f.ex
  rw [hy] at h1
  exact ⟨a, fd, ps, by rw [hx]; exact h1, h2⟩
/-- a def that is not reached -/
theorem fs_stuck {P : Program} {w : World} {K : PySem.W.Frag} {mg : Str → Option Value} {base : Heap} {x qual : Str} {params : Arguments} {body : List Stmt} {scope : Scope} {f : Addr} {fd : FuncData} {ps : List Str} {k : Nat} (F : FunD K x qual params body scope [] [] f fd) (hm : mg x = some (.ref f)) (hb : Binds K fd ps []) :
    FS P w K mg base x k ps.length (fun _ _ => .stuck) := ⟨f, fd, ps, hm, F.kp, hb, fun vs H Q E h => by
    obtain ⟨_, _, _, _, _, _, post⟩ := h
    exact post.elim, fun A outer s H args us vs Q E _ _ _ _ h => by
    obtain ⟨_, _, _, _, _, _, post⟩ := h
    exact post.elim⟩
theorem hu65 {k : Nat} {A : Around} (r : Room k A) : A.units + 65 < cLine := by have := r.un; omega
end
end Z
/-! Z14: walks over lists that are objects, evaluated. -/
namespace Z
open PySem PySem.Spec PyProof.Rows L2
section
variable {env : Ev} {h : IH} {g : MG} {mb : MS} {d : D} {ds : List D} {n i k : Nat}
/-- the items of the list k -/
def viewL (k : Nat) : IH → Option (List D) := fun h => match h[k]? with
  | some (.lst ds) => some ds
  | _ => none
theorem viewL_eq (e : h[k]? = some (.lst ds)) : viewL k h = some ds := by unfold viewL; rw [e]
theorem srcOf_ref (e : h[k]? = some (.lst ds)) : srcOf h (.ref k) = some (.live (viewL k)) := by
  unfold srcOf; dsimp only; rw [e]
  rfl
theorem forS_inv (I : Nat → Ev → IH → Prop)
    (step : ∀ i e h d, I i e h → ds[i]? = some d → ∃ e1, g d e = some e1 ∧ ∃ e2 h2, (mb e1 h = .nx e2 h2 ∨ mb e1 h = .ct e2 h2) ∧ I (i + 1) e2 h2) :
    ∀ (m i : Nat) (e : Ev) (h : IH), ds.length - i = m → i ≤ ds.length → I i e h → ∃ e' h', forS g mb (ds.drop i) e h = .nx e' h' ∧ I ds.length e' h'
  | 0, i, e, h, hm, hi, q => by
    have : i = ds.length := by omega
    subst this
    exact ⟨e, h, by rw [List.drop_length]; rfl, q⟩
  | m + 1, i, e, h, hm, hi, q => by
    have hi' : i < ds.length := by omega
    obtain ⟨e1, h1, e2, h2, h3, h4⟩ := step i e h ds[i] q (List.getElem?_eq_getElem hi')
    obtain ⟨e', h', r1, r2⟩ := forS_inv I step m (i + 1) e2 h2 (by omega) hi' h4
    refine ⟨e', h', ?_, r2⟩
    rw [List.drop_eq_getElem_cons hi']
    show turnM g mb ds[i] e h (forS g mb (ds.drop (i + 1))) = _
    unfold turnM
    rw [h1]
    rcases h3 with h3 | h3
    · simp only [h3]; exact r1
    · simp only [h3]; exact r1
end
end Z
/-! Z15: enumerate of a tuple, which the layer below lacks. -/
namespace Zt
open PySem PySem.Spec PyProof.Rows L2
open AutoSeq1 (wpAny_loadPart')
theorem enumT_new (l : Addr) (its : Array Value) :
    Meets (Builtin.«enumerate.__new__» ⟨[.type "enumerate", .ref l], []⟩) (fun _ R s => s.heap.IsTuple l its ∧ R (.ok (.ret (.ref (s.heap.push { cls := .type "tuple_iterator", data := .fields #[.ref l, .int 0 0] }).objs.size)))
        { s with heap := (s.heap.push { cls := .type "tuple_iterator", data := .fields #[.ref l, .int 0 0] }).push { cls := .type "enumerate", data := .fields #[.none, .bool false, .ref s.heap.objs.size, rawInt 0, .none, .none] } }) :=
  .of_wp fun prog w A R s h => by
    obtain ⟨hp, g, d, tk, os⟩ := s; obtain ⟨hl, h⟩ := h; have hsub := sub_enumerate; have hT : Heap.IsTuple (Shared.heap ⟨hp, g, d, tk, os⟩) l its := hl; obtain ⟨ot, hot, _⟩ := id hl
    wp_walk using wpAny_loadPart' hot, wpAny_pyIter_tuple hT
    refine wpAny_stack_any fun st => wpAny_pure ?_; split
    · rename_i c _ _ _ _ _; cases (c == Value.type "enumerate") <;> (wp_walk using wpAny_loadPart' hot, wpAny_pyIter_tuple hT; exact ⟨_, rfl, h⟩)
    · wp_walk using wpAny_loadPart' hot, wpAny_pyIter_tuple hT; exact ⟨_, rfl, h⟩
section
variable {prog : Program} {w : World} {A : Around} {E : Value → Shared → Prop} {s : Shared}
theorem call_enumT {l : Addr} {its : Array Value} {Q : Value → Shared → Prop} (hL : s.heap.IsTuple l its)
    (h : ∀ h', IsEnum h' (s.heap.objs.size + 1) s.heap.objs.size 0 .none → h'.IsTupleIter s.heap.objs.size l 0 → (∀ b o, s.heap.get? b = some o → h'.get? b = some o) → Q (.ref (s.heap.objs.size + 1)) { s with heap := h' }) :
    wpAny (model prog w) A (call (.type "enumerate") [.ref l]) Q E s := by
  refine callType_new F.called_enumerate (by decide) (F.typeCall_enumerate_1 _) (F.newCall_enumerate_1 _) (fun obj => F.args_object_init_2 obj _) F.entry_enumerate_new (enumT_new l its) ⟨hL, ?_⟩
  have hz : (s.heap.push { cls := .type "tuple_iterator", data := .fields #[.ref l, .int 0 0] }).objs.size = s.heap.objs.size + 1 := Heap.size_push ..
  show _ ∧ _; rw [hz]
  have he : IsEnum ((s.heap.push { cls := .type "tuple_iterator", data := .fields #[.ref l, .int 0 0] }).push { cls := .type "enumerate", data := .fields #[.none, .bool false, .ref s.heap.objs.size, rawInt 0, .none, .none] }) (s.heap.objs.size + 1) s.heap.objs.size 0 .none := by
    have q := Heap.get?_push_size (s.heap.push { cls := .type "tuple_iterator", data := .fields #[.ref l, .int 0 0] }) (o := { cls := .type "enumerate", data := .fields #[.none, .bool false, .ref s.heap.objs.size, rawInt 0, .none, .none] }) rfl
    rw [hz] at q; exact q
  exact ⟨⟨_, he, rfl⟩, h _ he ⟨_, Heap.get?_push_of_some _ (Heap.get?_push_size _ rfl), rfl, rfl⟩ fun b o x => Heap.get?_push_of_some _ (Heap.get?_push_of_some _ x)⟩
/-- one turn of an enumeration, over whatever is within -/
theorem enum_turn {e it : Addr} {i : Nat} {x old : Value} {J : Heap → Prop} {Q : Value → Shared → Prop} (he : IsEnum s.heap e it i old) (hne : e ≠ it) (hJ : ∀ h h' : Heap, J h → (∀ o, h.get? it = some o → h'.get? it = some o) → J h')
    (nx : ∀ (Q' : Value → Shared → Prop), (∀ h', J h' → Heap.SameBut it s.heap h' → Q' x { s with heap := h' }) → wpAny (model prog w) A (Builtin.SmallTypes.nextOf (.ref it)) Q' E s)
    (hQ : ∀ h', IsEnumOut h' e it ((i : Int) + 1) x s.heap.objs.size → J h' → h'.get? s.heap.objs.size = some { cls := .type "tuple", data := .seq #[.int i s.toks, x] } →
      (∀ b o, b ≠ e → b ≠ it → s.heap.get? b = some o → h'.get? b = some o) → Q (.ref s.heap.objs.size) { s with heap := h', toks := s.toks + 1 }) :
    wpAny (model prog w) A (Builtin.«enumerate.__next__» ⟨[.ref e], []⟩) (fun fin s' => ∃ v, fin = .done (.ret v) ∧ Q v s') E s := by
  obtain ⟨hp, g, d, tk, os⟩ := s
  show wpAny _ _ (field (.ref e) 2 >>= _) _ _ _; refine wpAny_bind (wpAny_field he rfl (x := .ref it) rfl ?_)
  refine wpAny_bind (nx _ fun h₁ j₁ hs₁ => ?_); replace hs₁ : Heap.SameBut it hp h₁ := hs₁
  have he₁ : IsEnum h₁ e it i old := (hs₁.2 e hne).trans he
  show wpAny _ _ (field (.ref e) 3 >>= _) _ _ ⟨h₁, g, d, tk, os⟩; refine wpAny_bind (wpAny_field he₁ rfl (x := rawInt i) rfl ?_)
  show wpAny _ _ (field (.ref e) 4 >>= _) _ _ ⟨h₁, g, d, tk, os⟩; refine wpAny_bind (wpAny_field he₁ rfl (x := .none) rfl ?_)
  show wpAny _ _ (mkInt i >>= _) _ _ ⟨h₁, g, d, tk, os⟩; refine wpAny_bind (wpAny_mkInt ?_)
  show wpAny _ _ (setField (.ref e) 3 (rawInt ((i : Int) + 1)) >>= _) _ _ ⟨h₁, g, d, tk + 1, os⟩; refine wpAny_bind (wpAny_setField_rec he₁ (by simp) fun h₂ he₂ hs₂ => ?_)
  replace hs₂ : Heap.SameBut e h₁ h₂ := hs₂; replace he₂ : IsEnum h₂ e it ((i : Int) + 1) old := he₂
  show wpAny _ _ (setField (.ref e) 4 .none >>= _) _ _ ⟨h₂, g, d, tk + 1, os⟩; refine wpAny_bind (wpAny_setField_rec he₂ (by simp) fun h₃ he₃ hs₃ => ?_)
  replace hs₃ : Heap.SameBut e h₂ h₃ := hs₃; replace he₃ : IsEnum h₃ e it ((i : Int) + 1) old := he₃
  show wpAny _ _ (newTuple [.int i tk, x] >>= _) _ _ ⟨h₃, g, d, tk + 1, os⟩; refine wpAny_bind (wpAny_newTuple ?_)
  have he₄ : IsEnum (h₃.push { cls := .type "tuple", data := .seq #[.int i tk, x] }) e it ((i : Int) + 1) old := Heap.get?_push_of_some _ he₃
  generalize hh₄ : h₃.push { cls := .type "tuple", data := .seq #[.int i tk, x] } = h₄ at he₄
  have hsz : h₃.objs.size = hp.objs.size := by rw [hs₃.1, hs₂.1, hs₁.1]
  have hel : e < hp.objs.size := Heap.lt_size he
  have ht₄ : h₄.get? hp.objs.size = some { cls := .type "tuple", data := .seq #[.int i tk, x] } := by rw [← hh₄, ← hsz]; exact Heap.get?_push_size _ rfl
  have hk₄ : ∀ b o, b ≠ e → b ≠ it → hp.get? b = some o → h₄.get? b = some o := fun b o n1 n2 q => by rw [← hh₄]; exact Heap.get?_push_of_some _ (hs₃.extBut b o n1 (hs₂.extBut b o n1 (hs₁.extBut b o n2 q)))
  have j₄ : J h₄ := hJ h₁ h₄ j₁ fun o q => by rw [← hh₄]; exact Heap.get?_push_of_some _ (hs₃.extBut it o (Ne.symm hne) (hs₂.extBut it o (Ne.symm hne) q))
  show wpAny _ _ (Builtin.SmallTypes.ownedTupleIsFree (.ref e) >>= _) _ _ ⟨h₄, g, d, tk + 1, os⟩
  rw [hsz]; clear hh₄ he₃ hs₃ he₂ hs₂ he₁ hs₁ j₁ hsz h₃ h₂ h₁
  refine wpAny_bind ?_; unfold Builtin.SmallTypes.ownedTupleIsFree
  refine wpAny_bind (wpAny_field he₄ rfl (x := .none) rfl (wpAny_pure ?_)); simp only [if_true]; refine wpAny_bind (wpAny_rule ?_)
  refine wpAny_bind (wpAny_field he₄ rfl (x := old) rfl ?_); refine wpAny_bind (wpAny_setField_rec he₄ (by simp) fun h₅ he₅ hs₅ => ?_)
  replace hs₅ : Heap.SameBut e h₄ h₅ := hs₅; replace he₅ : IsEnum h₅ e it ((i : Int) + 1) x := he₅
  show wpAny _ _ (Builtin.SmallTypes.ownedTupleHandOut (.ref e) (.ref hp.objs.size) >>= _) _ _ ⟨h₅, g, d, tk + 1, os⟩
  refine wpAny_bind ?_; unfold Builtin.SmallTypes.ownedTupleHandOut
  refine wpAny_bind (wpAny_setField_rec he₅ (by simp) fun h₆ he₆ hs₆ => ?_); replace hs₆ : Heap.SameBut e h₅ h₆ := hs₆
  replace he₆ : IsEnumOut h₆ e it ((i : Int) + 1) x hp.objs.size := he₆; refine wpAny_setField_rec he₆ (by simp) fun h₇ he₇ hs₇ => ?_
  replace hs₇ : Heap.SameBut e h₆ h₇ := hs₇; replace he₇ : IsEnumOut h₇ e it ((i : Int) + 1) x hp.objs.size := he₇
  have stay : ∀ b o, b ≠ e → h₄.get? b = some o → h₇.get? b = some o := fun b o n q => hs₇.extBut b o n (hs₆.extBut b o n (hs₅.extBut b o n q))
  exact wpAny_bind (wpAny_letGo (wpAny_pure ⟨_, rfl, hQ h₇ he₇ (hJ h₄ h₇ j₄ fun o q => stay it o (Ne.symm hne) q) (stay _ _ (Nat.ne_of_gt hel) ht₄) fun b o n1 n2 q => stay b o n1 (hk₄ b o n1 n2 q)⟩))
theorem enumT_item {e it l : Addr} {i : Nat} {its : Array Value} {x old : Value} {Q : Option Value → Shared → Prop} (he : IsEnum s.heap e it i old) (hit : s.heap.IsTupleIter it l i) (hl : s.heap.IsTuple l its) (hx : its[i]? = some x) (hne : e ≠ it)
    (hQ : ∀ h', IsEnumOut h' e it ((i : Int) + 1) x s.heap.objs.size → h'.IsTupleIter it l (i + 1) → h'.get? s.heap.objs.size = some { cls := .type "tuple", data := .seq #[.int i s.toks, x] } →
      (∀ b o, b ≠ e → b ≠ it → s.heap.get? b = some o → h'.get? b = some o) → Q (some (.ref s.heap.objs.size)) { s with heap := h', toks := s.toks + 1 }) :
    wpAny (model prog w) A (pyNext (.ref e)) Q E s := by
  have hT : s.TypeIs (.ref e) "enumerate" := ⟨_, he, rfl⟩
  unfold pyNext
  exact wpAny_bind (wpAny_attempt (wpAny_callSpecial?_slot (name := Str.ofString "__next__") hT F.slot_enumerate_next (wpAny_call_entry F.slot_enumerate_next hT F.entry_enumerate_next
    (enum_turn (J := fun h => h.IsTupleIter it l (i + 1)) he hne (fun h h' j k => j.at k) (fun Q' q => RZ.nextOf_tuple_item hit hl hx fun h' a b => q h' a b) fun h' a b c k => wpAny_pure (hQ h' a b c k)) (F.args_enumerate_next_1 _))))
theorem enumT_end {e it l : Addr} {i : Nat} {its : Array Value} {old : Value} {Q : Option Value → Shared → Prop} (hh : A.handled = none) (he : IsEnum s.heap e it i old) (hit : s.heap.IsTupleIter it l i) (hl : s.heap.IsTuple l its) (hx : its[i]? = none)
    (hQ : ∀ h', Heap.ExtBut it s.heap h' → Q none { s with heap := h' }) : wpAny (model prog w) A (pyNext (.ref e)) Q E s := by
  have hT : s.TypeIs (.ref e) "enumerate" := ⟨_, he, rfl⟩
  unfold pyNext
  refine wpAny_bind (wpAny_attempt (wpAny_callSpecial?_slot (name := Str.ofString "__next__") hT F.slot_enumerate_next (wpAny_call_entry F.slot_enumerate_next hT F.entry_enumerate_next ?_ (F.args_enumerate_next_1 _))))
  show wpAny _ _ (field (.ref e) 2 >>= _) _ _ _; refine wpAny_bind (wpAny_field he rfl (x := .ref it) rfl ?_)
  refine wpAny_bind (RZ.nextOf_tuple_end hh hit hl hx fun h' x k hx' => ?_); obtain ⟨o, ho, hc⟩ := hx'
  exact wpAny_bind (wpAny_isInstance (T := "StopIteration") (b := true) ⟨o, ho, hc⟩ isSubtype_stop (wpAny_pure (hQ _ k)))
end
/-- the tuple at a, each item in a new pair -/
def IteT (K : PySem.W.Frag) (a : Addr) : It :=
  ⟨fun i H => ∃ (xs : List V) (x : V), SqT K H a xs ∧ xs[i]? = some x, fun i H v H' => ∃ T x, v = .ref T ∧ H T = none ∧ H' = upd H T (.tup [.int (i : Nat), x]) ∧ ∀ xs, SqT K H a xs → xs[i]? = some x, fun i H => ∃ xs : List V, SqT K H a xs ∧ xs.length ≤ i⟩
theorem turn_enumT {P : Program} {w : World} {K : PySem.W.Frag} {elts : List Expr} {kk : Nat} {tpos : Pos} (a e it : Addr) :
    Turn P w K (.Tuple elts kk tpos) (IteT K a) [e, it] e (fun i h => (∃ old, IsEnum h e it ((i : Nat) : Int) old) ∧ h.IsTupleIter it a i ∧ e ≠ it) where
  mem := by simp
  obj := fun i h st b hb => by
    obtain ⟨⟨old, he⟩, ⟨o, ho, hc, hd⟩, _⟩ := st
    rcases (by simpa using hb : b = e ∨ b = it) with z | z
    · subst z; exact ⟨_, he, fun v' q' => nomatch q'⟩
    · subst z; exact ⟨o, ho, fun v' q' => by rw [hd] at q'; cases q'⟩
  keep := fun i h h' st k => let ⟨⟨old, he⟩, hi, hne⟩ := st; ⟨⟨old, k e (by simp) _ he⟩, hi.at fun o q => k it (by simp) o q, hne⟩
  item := by
    intro X hP hw hK hc i pins s σ H E I hf st hg
    subst hP hw hK
    obtain ⟨⟨⟨old, he⟩, hit, hne⟩, ⟨xs, x, hq, hx⟩⟩ := And.intro st hg
    obtain ⟨its, rv, p, hz⟩ := I.tuple hq; obtain ⟨u, hu, ru⟩ := rv.get hx
    have hel : e < s.heap.objs.size := Heap.lt_size he; have hil : it < s.heap.objs.size := by obtain ⟨_, q, _⟩ := hit; exact Heap.lt_size q
    refine enumT_item he hit p (x := u) (by simpa using hu) hne fun h' ho hit' hT hk => ?_
    refine ⟨_, rfl, wpAny_letOwnedTupleGo_enum (s := { s with heap := h', toks := s.toks + 1 }) ho fun h'' he' sb => ?_⟩
    have hT2 : h''.get? s.heap.objs.size = some { cls := .type "tuple", data := .seq #[.int i s.toks, u] } := (sb.2 _ (Nat.ne_of_gt hel)).trans hT
    have new : ObjOk X.prog X.w (upd H s.heap.objs.size (.tup [.int (i : Nat), x])) h'' s.heap.objs.size (.tup [.int (i : Nat), x]) := ⟨by show 2 ≤ sizeLine; decide, [.int i s.toks, u], .cons ⟨_, rfl⟩ (.cons ru .nil), ⟨_, hT2, rfl, _, rfl⟩⟩
    have I1 : Inv X pins σ (upd H s.heap.objs.size (.tup [.int (i : Nat), x])) { s with heap := h'', toks := s.toks + 1 } :=
      I.turnedNew (ch := [e, it]) (fun b ob hb q => have n1 : b ≠ e := fun z => hb (by simp [z]); have n2 : b ≠ it := fun z => hb (by simp [z]); (sb.2 b n1).trans (hk b ob n1 n2 q)) hf (Nat.le_refl _) new
    refine ⟨.ref s.heap.objs.size, _, I1, rfl, ⟨_, x, rfl, I.hok.fresh (Nat.le_refl _), rfl, fun ys hy => by rw [I.tuple_inj hy hq]; exact hx⟩, ⟨⟨u, ?_⟩, hit'.at fun o q => (sb.2 it (Ne.symm hne)).trans q, hne⟩, fun b hb => ?_⟩
    · rw [show ((i + 1 : Nat) : Int) = (i : Int) + 1 by omega]; exact he'
    · have hb' : b < s.heap.objs.size := (by simpa using hb : b = e ∨ b = it).elim (fun z => by rw [z]; exact hel) fun z => by rw [z]; exact hil
      rw [upd_ne (Nat.ne_of_lt hb')]; exact (hf b hb).1
  done := by
    intro X hP hw hK hc i pins s σ H E I hf st hg
    subst hP hw hK
    obtain ⟨⟨⟨old, he⟩, hit, hne⟩, ⟨xs, hq, hx⟩⟩ := And.intro st hg
    obtain ⟨its, rv, p, hz⟩ := I.tuple hq; obtain ⟨f0, f1, f2, f3, f4, f5⟩ := hf it (by simp); have hl := rv.length
    exact enumT_end (I.ok.hd hc) he hit p (by simp; omega) fun h' eb => ⟨rfl, I.turned (t' := s.toks) (fun b o hb q => eb b o hb q) f0 f1 f3 f4 f5⟩
  self := fun A i s Q E st h => let ⟨⟨_, he⟩, _⟩ := st; wpAny_pyIter_enum he h
def iEnumT (K : PySem.W.Frag) (ta : TA) : TI := fun σ H R => ta σ H fun vs H1 => ∃ a xs, vs = [.ref a] ∧ SqT K H1 a xs ∧ R (IteT K a) H1
theorem pi_enumT {X : Cx} {e : Expr} {ta : TA} {p pos tpos : Pos} {elts : List Expr} {kk : Nat} (hg : Gl X "enumerate") (hm : X.mg "enumerate" = none) (ha : PA X [e] ta) (hs : starEach [e] X.env = [(false, eval e X.env)] := by rfl) :
    PI X (.Tuple elts kk tpos) (.Call (.Name "enumerate" p) [e] [] pos) (iEnumT X.K ta) := by
  refine ⟨fun pins s σ H R I h => ?_⟩
  refine Call_ (ld_blt I hg hm boot_enumerate (PyProof.Rows.callWith_type1 (thn (ha.run pos pins s σ H _ I h) fun us s1 ⟨vs, H1, I1, r1, ⟨a, xs, ex, hq, q⟩⟩ => ?_) hs rfl))
  subst ex
  cases r1 with
  | cons r rr =>
    cases rr; cases r
    obtain ⟨its, rv, p', hz⟩ := I1.tuple hq
    refine call_enumT p' fun h' he hit hk => wpAny_pyIter_enum he ?_
    have I2 : Inv X pins σ H1 { s1 with heap := h' } := I1.kept (t' := s1.toks) hk
    refine ⟨s1.heap.objs.size + 1, [s1.heap.objs.size + 1, s1.heap.objs.size], _, _, H1, rfl, I2, turn_enumT a (s1.heap.objs.size + 1) s1.heap.objs.size, ⟨⟨.none, he⟩, hit, Nat.succ_ne_self _⟩, fun b hb => ?_, q⟩
    have hle : s1.heap.objs.size ≤ b := (by simpa using hb : b = s1.heap.objs.size + 1 ∨ b = s1.heap.objs.size).elim (fun z => by rw [z]; exact Nat.le_add_right _ _) fun z => by rw [z]; exact Nat.le_refl _
    exact I1.fpOk hle (I1.hok.fresh hle)
end Zt
/-! Z16: tuple(x); enumerate, zip; instances of own classes. -/
namespace Z
open PySem PySem.Spec PyProof.Rows L2
section
variable {xp : Option XP} {X : Cx} {a b e o : Expr} {es : List Expr} {ma mb mo : ME} {ms : MA} {p pos : Pos} {tg : Expr}
/-! ### tuple(x) -/
def tupleF : MF := fun ds h => match ds with
  | [.tup xs] => .ok (.tup xs) h
  | [.fz xs] => .ok (.tup xs) h
  | [.ref n] => match h[n]? with
    | some (.lst xs) => .ok (.tup xs) h
    | _ => .stuck
  | _ => .stuck
theorem c_tuple : SC X (.type "tuple") tupleF := ⟨_, call_tuple_of, fun W ρ ih H σ Q ds vs rl rv post => by
  unfold tupleF at post
  split at post
  · cases rv with
    | cons q t =>
      cases t
      cases q with
      | @tup a vs xs h1 h2 => exact ⟨_, vs, rfl, .inr ⟨h1, post ρ _ H .refl rl (.tup h1 h2)⟩⟩
  · cases rv with
    | cons q t =>
      cases t
      cases q with
      | @fz a vs xs h1 h2 => exact ⟨_, vs, rfl, .inl ⟨h1.sq, fun l hl => post ρ _ _ (Ext.fresh hl) (rl.aside hl) (.tup (SqT.of upd_same) (h2.ext (Ext.fresh hl)))⟩⟩
  · cases rv with
    | cons q t =>
      cases t
      cases q with
      | @ref n a h1 =>
        split at post
        · rename_i xs hn
          obtain ⟨vs, hv, r⟩ := rl.lst h1 hn
          exact ⟨_, vs, rfl, .inl ⟨SqL.of hv, fun l hl => post ρ _ _ (Ext.fresh hl) (rl.aside hl) (.tup (SqT.of upd_same) (r.ext (Ext.fresh hl)))⟩⟩
        · exact post.elim
  · exact post.elim⟩
/-! ### enumerate -/
def enD : Nat → List D → List D
  | _, [] => []
  | i, d :: ds => .tup [.int (i : Nat), d] :: enD (i + 1) ds
theorem enD_length : ∀ {i : Nat} {ds : List D}, (enD i ds).length = ds.length
  | _, [] => rfl
  | i, d :: ds => congrArg Nat.succ enD_length
theorem enD_get : ∀ {i j : Nat} {ds : List D}, (enD i ds)[j]? = (ds[j]?).map fun d => .tup [.int ((i + j : Nat) : Int), d]
  | _, _, [] => by simp [enD]
  | i, 0, d :: ds => by simp [enD]
  | i, j + 1, d :: ds => by
    have e : i + 1 + j = i + (j + 1) := by omega
    rw [enD, List.getElem?_cons_succ, List.getElem?_cons_succ, enD_get, e]
def enumI (ma : ME) : MI := fun env h => (ma env h).bind fun d h => match d with
  | .tup ds => .ok (.snap (enD 0 ds)) h
  | .fz ds => .ok (.snap (enD 0 ds)) h
  | .ref n => match h[n]? with
    | some (.lst _) => .ok (.live fun h => (viewL n h).map (enD 0)) h
    | _ => .stuck
  | _ => .stuck
theorem pair_ok {K : PySem.W.Frag} {ρ : Rho} {H H' : Hp} {ih : IH} {T : Addr} {d e : D} {x y : V} (rl : RelH K ρ ih H) (hT : H T = none) (hH : H' = upd H T (.tup [x, y])) (r1 : RepV K ρ H d x) (r2 : RepV K ρ H e y) :
    Ext ρ H ρ H' ∧ RelH K ρ ih H' ∧ RepV K ρ H' (.tup [d, e]) (.ref T) := by
  subst hH
  exact ⟨Ext.fresh hT, rl.aside hT, .tup (SqT.of upd_same) (.cons (r1.ext (Ext.fresh hT)) (.cons (r2.ext (Ext.fresh hT)) .nil))⟩
theorem ite_ls {K : PySem.W.Frag} {ρ : Rho} {H : Hp} {a : Addr} {vs : List V} {ds : List D} (h1 : SqF K H a vs) (h2 : RepL K ρ H ds vs) : ItS K (Ite K a) ρ H (enD 0 ds) where
  go := fun i d ρ' H' ih x rl e => by
    rw [enD_get] at e
    obtain ⟨d0, e0, rfl⟩ := Option.map_eq_some_iff.mp e
    obtain ⟨v, e1, r1⟩ := h2.get e0
    refine ⟨⟨vs, v, (x.sqF h1).sq, e1⟩, fun y H2 ⟨T, u, ey, hT, eH, hu⟩ => ?_⟩
    have q := hu vs (x.sqF h1).sq
    rw [e1] at q
    cases q
    subst ey
    rw [Nat.zero_add]
    exact pair_ok rl hT eH (.int _) (r1.ext x)
  stop := fun ρ' H' x => ⟨vs, (x.sqF h1).sq, by rw [enD_length, h2.length]; exact Nat.le_refl _⟩
theorem ite_ts {K : PySem.W.Frag} {ρ : Rho} {H : Hp} {a : Addr} {vs : List V} {ds : List D} (h1 : SqT K H a vs) (h2 : RepL K ρ H ds vs) : ItS K (Zt.IteT K a) ρ H (enD 0 ds) where
  go := fun i d ρ' H' ih x rl e => by
    rw [enD_get] at e
    obtain ⟨d0, e0, rfl⟩ := Option.map_eq_some_iff.mp e
    obtain ⟨v, e1, r1⟩ := h2.get e0
    refine ⟨⟨vs, v, x.sqT h1, e1⟩, fun y H2 ⟨T, u, ey, hT, eH, hu⟩ => ?_⟩
    have q := hu vs (x.sqT h1)
    rw [e1] at q
    cases q
    subst ey
    rw [Nat.zero_add]
    exact pair_ok rl hT eH (.int _) (r1.ext x)
  stop := fun ρ' H' x => ⟨vs, x.sqT h1, by rw [enD_length, h2.length]; exact Nat.le_refl _⟩
theorem viewL_some {k : Nat} {h : IH} {ds : List D} (e : viewL k h = some ds) : h[k]? = some (.lst ds) := by
  unfold viewL at e
  split at e
  · rename_i ds' q; cases e; exact q
  · cases e
theorem ite_rs {K : PySem.W.Frag} {ρ : Rho} {H : Hp} {n : Nat} {a : Addr} (ha : ρ.as[n]? = some a) : ItV K (Ite K a) ρ H (fun h => (viewL n h).map (enD 0)) where
  go := fun i d ρ' H' ih ds x rl ev e => by
    obtain ⟨ds0, ev0, rfl⟩ := Option.map_eq_some_iff.mp ev
    obtain ⟨vs, hv, rv⟩ := rl.lst (x.get ha) (viewL_some ev0)
    rw [enD_get] at e
    obtain ⟨d0, e0, rfl⟩ := Option.map_eq_some_iff.mp e
    obtain ⟨v, e1, r1⟩ := rv.get e0
    refine ⟨⟨vs, v, SqL.of hv, e1⟩, fun y H2 ⟨T, u, ey, hT, eH, hu⟩ => ?_⟩
    have q := hu vs (SqL.of hv)
    rw [e1] at q
    cases q
    subst ey
    rw [Nat.zero_add]
    exact pair_ok rl hT eH (.int _) r1
  stop := fun i ρ' H' ih ds x rl ev e => by
    obtain ⟨ds0, ev0, rfl⟩ := Option.map_eq_some_iff.mp ev
    obtain ⟨vs, hv, rv⟩ := rl.lst (x.get ha) (viewL_some ev0)
    have := List.getElem?_eq_none_iff.mp e
    rw [enD_length] at this
    exact ⟨vs, SqL.of hv, by rw [← rv.length]; exact this⟩
theorem si_enum {elts : List Expr} {kk : Nat} {tpos : Pos} (hg : Gl X "enumerate") (hm : X.mg "enumerate" = none) (A : SA xp X [e] ms) (hs : starEach [e] X.env = [(false, eval e X.env)] := by rfl) :
    SI xp X (.Tuple elts kk tpos) (.Call (.Name "enumerate" p) [e] [] pos) (enumI fun env h => (ms env h).bind fun ds h => match ds with | [d] => .ok d h | _ => .stuck) := fun W tk => by
  obtain ⟨ta, pa, ha⟩ := A W tk
  refine ⟨_, pi_or (pi_enum hg hm pa hs) (Zt.pi_enumT hg hm pa hs), fun ρ env ih σ H Q rl post => ?_⟩
  have post : PostI X.K X.mg W ρ σ H Q (((ms env ih).bind fun ds h => match ds with | [d] => (.ok d h : R D) | _ => .stuck).bind fun d h => match d with
    | .tup ds => (.ok (.snap (enD 0 ds)) h : R Src)
    | .fz ds => .ok (.snap (enD 0 ds)) h
    | .ref n => match h[n]? with
      | some (.lst _) => .ok (.live fun h => (viewL n h).map (enD 0)) h
      | _ => .stuck
    | _ => .stuck) := post
  revert post
  cases q : ms env ih with
  | exc x h => intro post; exact .inl (ha ρ env ih σ H _ rl (by rw [q]; exact post))
  | stuck => exact fun post => post.elim
  | ok ds h1 =>
    intro post
    match ds, post, q with
    | [], post, q => exact post.elim
    | _ :: _ :: _, post, q => exact post.elim
    | [d], post, q =>
      cases d with
      | tup ds =>
        refine .inr (ha ρ env ih σ H _ rl (by
          rw [q]
          intro ρ1 vs H1 x1 r1 p1
          cases p1 with
          | cons pd pn =>
            cases pn
            cases pd with
            | @tup a vs _ h1 h2 => exact ⟨a, vs, rfl, h1, post ρ1 _ H1 x1 r1 (ite_ts h1 h2)⟩))
      | fz ds =>
        refine .inl (ha ρ env ih σ H _ rl (by
          rw [q]
          intro ρ1 vs H1 x1 r1 p1
          cases p1 with
          | cons pd pn =>
            cases pn
            cases pd with
            | @fz a vs _ h1 h2 => exact ⟨a, vs, rfl, h1.sq, post ρ1 _ H1 x1 r1 (ite_ls h1 h2)⟩))
      | ref n =>
        have post : PostI X.K X.mg W ρ σ H Q (match h1[n]? with
          | some (.lst _) => .ok (.live fun h => (viewL n h).map (enD 0)) h1
          | _ => .stuck) := post
        split at post
        · rename_i ds hn
          refine .inl (ha ρ env ih σ H _ rl (by
            rw [q]
            intro ρ1 vs H1 x1 r1 p1
            cases p1 with
            | cons pd pn =>
              cases pn
              cases pd with
              | @ref _ a h2 =>
                obtain ⟨vs, hv, rv⟩ := r1.lst h2 hn
                exact ⟨a, vs, rfl, SqL.of hv, post ρ1 _ H1 x1 r1 (ite_rs h2)⟩))
        · exact post.elim
      | _ => exact post.elim
/-! ### zip of a list and a tuple -/
/-! ### zip -/
/-! ### fields of instances -/
/-- which fields of which classes may be read -/
def OwnF (K : PySem.W.Frag) (fok : Str → Str → Bool) : Prop := ∀ c f, fok c f = true → Cls K (He.ga K c) ∧ NoAttr K (He.ga K c) f
def insAt (h : IH) : D → Option (Nat × Str × List (Str × D))
  | .ref n => match h[n]? with
    | some (.ins c fs) => some (n, c, fs)
    | _ => none
  | _ => none
theorem insAt_some {h : IH} {d : D} {n : Nat} {c : Str} {fs : List (Str × D)} (e : insAt h d = some (n, c, fs)) : d = .ref n ∧ h[n]? = some (.ins c fs) := by
  unfold insAt at e
  split at e
  · split at e
    · rename_i q; cases e; exact ⟨rfl, q⟩
    · cases e
  · cases e
theorem insAt_ok {K : PySem.W.Frag} {ρ : Rho} {ih : IH} {H : Hp} (rl : RelH K ρ ih H) {d : D} {v : V} {n : Nat} {c : Str} {fs : List (Str × D)} (e : insAt ih d = some (n, c, fs)) (r : RepV K ρ H d v) :
    ∃ a dx vs, v = .ref a ∧ ρ.as[n]? = some a ∧ H a = some (.ins (He.ga K c) dx vs) ∧ RepF K ρ H fs vs := by
  obtain ⟨rfl, e2⟩ := insAt_some e
  cases r with
  | @ref _ a h1 =>
    obtain ⟨dx, vs, h2, h3⟩ := rl.obj n a _ h1 e2
    exact ⟨a, dx, vs, rfl, h1, h2, h3⟩
theorem RepF.none {K : PySem.W.Frag} {ρ : Rho} {H : Hp} {f : Str} : ∀ {ds : List (Str × D)} {vs : List (Str × V)}, RepF K ρ H ds vs → ds.lookup f = none → vs.lookup f = none
  | _, _, .nil, _ => rfl
  | _, _, .cons (f := g) r t, h => by
    rw [List.lookup_cons] at h ⊢
    cases c : (f == g) with
    | true => rw [c] at h; cases h
    | false => rw [c] at h; exact RepF.none t h
def fldM (fok : Str → Str → Bool) (f : Str) (ma : ME) : ME := fun env h => (ma env h).bind fun d h => match insAt h d with
  | some (_, c, fs) => if fok c f = true then (match fs.lookup f with
    | some v => .ok v h
    | none => .stuck) else .stuck
  | none => .stuck
theorem s_fld {fok : Str → Str → Bool} {f : Str} (T : OwnF X.K fok) (A : SE xp X a ma) (hb : attributeBase a f X.env (eval a X.env) = eval a X.env := by rfl) : SE xp X (.Attribute a f pos) (fldM fok f ma) := fun W tk => by
  obtain ⟨ta, pa, ha⟩ := A W tk
  refine ⟨_, pe_fld pa hb, fun ρ env ih σ H Q rl post => ?_⟩
  refine fstE (ta := ta) ha rl (lkE (Q := Q)) post fun ρ1 d h1 v H1 e1 r1 p1 post => ?_
  split at post
  · rename_i n c fs q
    split at post
    · rename_i hf
      obtain ⟨a, dx, vs, rfl, _, h2, h3⟩ := insAt_ok r1 q p1
      split at post
      · rename_i u hu
        obtain ⟨v, h4, h5⟩ := h3.get hu
        obtain ⟨t1, t2⟩ := T c f hf
        exact ⟨a, _, dx, vs, v, rfl, h2, t1, t2, h4, post ρ1 v H1 .refl r1 h5⟩
      · exact post.elim
    · exact post.elim
  · exact post.elim
def putD (f : Str) (d : D) : List (Str × D) → List (Str × D)
  | [] => [(f, d)]
  | (g, x) :: r => if g = f then (g, d) :: r else (g, x) :: putD f d r
theorem RepF.put {K : PySem.W.Frag} {ρ : Rho} {H : Hp} {f : Str} {d : D} {v : V} (r : RepV K ρ H d v) : ∀ {ds : List (Str × D)} {vs : List (Str × V)}, RepF K ρ H ds vs → RepF K ρ H (putD f d ds) (putF f v vs)
  | _, _, .nil => .cons r .nil
  | _, _, .cons (f := g) q t => by
    unfold putD putF
    split
    · exact .cons r t
    · exact .cons q (RepF.put r t)
theorem RepF.length {K : PySem.W.Frag} {ρ : Rho} {H : Hp} : ∀ {ds : List (Str × D)} {vs : List (Str × V)}, RepF K ρ H ds vs → ds.length = vs.length
  | _, _, .nil => rfl
  | _, _, .cons _ t => congrArg Nat.succ (RepF.length t)
theorem rewriteO {K : PySem.W.Frag} {ρ : Rho} {ih : IH} {H : Hp} (r : RelH K ρ ih H) {n : Nat} {a C dx : Addr} {c : Str} {vs us : List (Str × V)} {ds : List (Str × D)} (ha : ρ.as[n]? = some a) (hl : H a = some (.ins C dx us)) (hc : C = He.ga K c) (h : RepF K ρ H ds vs) :
    Ext ρ H ρ (upd H a (.ins C dx vs)) ∧ RelH K ρ (ih.set n (.ins c ds)) (upd H a (.ins C dx vs)) := by
  have hm : a ∈ ρ.as := List.mem_of_getElem? ha
  have x : Ext ρ H ρ (upd H a (.ins C dx vs)) :=
    ⟨List.prefix_refl _, fun _ z => .inl z, fun b u e hb => by rw [upd_ne (by rintro rfl; exact hb hm)]; exact e, fun b u e => by rw [upd_ne (by rintro rfl; rw [hl] at e; cases e)]; exact e,
      fun b u v e => by rw [upd_ne (by rintro rfl; rw [hl] at e; cases e)]; exact e, fun b u e => by rw [upd_ne (by rintro rfl; rw [hl] at e; cases e)]; exact e⟩
  refine ⟨x, by rw [r.len, List.length_set], r.nd, fun m b u e1 e2 => ?_⟩
  by_cases hmn : n = m
  · subst hmn
    rw [ha] at e1; cases e1
    have hn : n < ih.length := by rw [← r.len]; exact (List.getElem?_eq_some_iff.mp ha).1
    rw [List.getElem?_set_self hn] at e2
    cases e2
    exact ⟨dx, vs, by rw [← hc]; exact upd_same, h.ext x⟩
  · rw [List.getElem?_set_ne hmn] at e2
    have ne : b ≠ a := by
      rintro rfl
      obtain ⟨h1, q1⟩ := List.getElem?_eq_some_iff.mp e1
      obtain ⟨h2, q2⟩ := List.getElem?_eq_some_iff.mp ha
      exact hmn ((List.getElem_inj r.nd).mp (q2.trans q1.symm))
    exact (r.obj m b u e1 e2).ext x (upd_ne ne)
/-- o.f = e -/
def ostM (fok : Str → Str → Bool) (f : Str) (mo ma : ME) : MS := fun env h => (ma env h).thenS env fun d h => (mo env h).thenS env fun x h => match insAt h x with
  | some (n, c, fs) => if fok c f = true ∧ fs.length < 1000 then .nx env (h.set n (.ins c (putD f d fs))) else .stuck
  | none => .stuck
theorem st_ost {fok : Str → Str → Bool} {f : Str} {pos' : Pos} (T : OwnF X.K fok) (O : SE xp X o mo) (A : SE xp X a ma) (hs : swapsWith a (some (.Attribute o f pos')) pos.line X.env = pure false := by rfl) : SS xp X (.Assign [.Attribute o f pos'] a pos) (ostM fok f mo ma) := fun W tk => by
  obtain ⟨ta, pa, ha⟩ := A W tk
  obtain ⟨to, po, ho⟩ := O W tk
  refine ⟨_, ps_fld po pa hs, fun ρ env ih σ H N rl post => ?_⟩
  refine fstE (ta := ta) ha rl (lkS (N := N) rl) post fun ρ1 d h1 v H1 e1 r1 p1 post => ?_
  have rl1 := rl.next e1 r1
  refine fstE (ta := to) ho rl1 (lkS (N := N) rl1) post fun ρ2 x h2 u H2 e2 r2 p2 post => ?_
  split at post
  · rename_i n c fs q
    split at post
    · rename_i hf
      obtain ⟨a, dx, vs, rfl, h3, h4, h5⟩ := insAt_ok r2 q p2
      obtain ⟨t1, t2⟩ := T c f hf.1
      obtain ⟨x3, r3⟩ := rewriteO r2 h3 h4 rfl (RepF.put (f := f) (p1.ext e2) h5)
      exact ⟨a, _, dx, vs, rfl, h4, t1, t2, by rw [← h5.length]; exact hf.2, post ρ2 σ _ x3 ((rl1.next e2 r2).next x3 r3)⟩
    · exact post.elim
  · exact post.elim
end
/-! ### methods -/
/-- the method m of the class named c does F, for n arguments (itself the first), in k levels -/
structure FM (P : Program) (w : World) (K : PySem.W.Frag) (mg : Str → Option Value) (base : Heap) (c m : Str) (k n : Nat) (F : MF) : Prop where
  ex : ∃ (f : Addr) (fd : FuncData) (ps : List Str), Cls K (He.ga K c) ∧ Meth K (He.ga K c) m f ∧ Binds K fd ps [] ∧ FnOk P w K mg base (L2.CX P w) k f fd ps (spF K mg n F)
section
variable {X : Cx} {CX : CXT} {k : Nat} {f C : Addr} {fd : FuncData} {ps : List Str} {sp : Sp} {E : L2.St → XK} {x m : Str} {p pos apos : Pos} {e o : Expr} {es : List Expr} {ta : TE} {t : TA}
def tMethD (C : Addr) (m : Str) (sp : Sp) (E : L2.St → XK) (ta : TE) (t : TA) : TE := fun σ H Q => ta σ H fun x H1 => ∃ a dx fs, x = .ref a ∧ H1 a = some (.ins C dx fs) ∧ fs.lookup m = none ∧ t σ H1 fun vs H2 => sp (x :: vs) H2 Q (E σ)
theorem pe_methD {pl : Sem Bool} (he : PE X o ta) (c : Cls X.K C) (hm : Meth X.K C m f) (F : FnOk X.prog X.w X.K X.mg X.base CX k f fd ps sp) (hr : Room k X.A) (hb : Binds X.K fd ps []) (hx : ∀ σ, PassesAt CX X σ (E σ)) (ha : PA X (e :: es) t)
    (hst : starEach (e :: es) X.env = (false, eval e X.env) :: starEach es X.env := by rfl) (hpl : (backTo pos (starEach es X.env)).any (·.1) = false := by rfl)
    (ht : eval (.Call (.Attribute o m apos) (e :: es) [] pos) X.env = (do let ov ← eval o X.env; standAt apos.atName; let (f, first) ← holding [ov] (getMethod ov m pl); callWith pos f first (backTo pos (starEach (e :: es) X.env)) (backToKw pos (keywordEach [] X.env))) := by rfl) :
    PE X (.Call (.Attribute o m apos) (e :: es) [] pos) (tMethD C m sp E ta t) := by
  refine ⟨fun pins s σ H Q I h => PySem.W.methodCall_KW (pl := pl) (thn (he.run pins s σ H _ I h) fun u s1 ⟨x, H1, I1, rx, a, dx, fs, ex, ea, l, q⟩ => ?_) ht⟩
  subst ex; obtain rfl : u = Value.ref a := rx
  refine getmeth_ok I1 ea c hm l (PySem.W.callWith_K (first := [.ref a]) (h₀ := X.base) I.ok.mod.kin hm.kp (thn (ha.run pos pins s1 σ H1 _ I1 q) fun us s2 ⟨vs, H2, I2, r, q2⟩ => ⟨I2.kIn, ?_⟩) hst hpl)
  exact run_fnSD (us := .ref a :: us) (vs := .ref a :: vs) (dvs := []) (ds := []) F hr hb .nil (hx σ) I2 (.cons rfl r) (by rw [List.append_nil]; exact q2)
end
section
variable {xp : Option XP} {X : Cx} {e o : Expr} {es : List Expr} {c m x : Str} {k j n : Nat} {F : MF} {ms : MA} {mo : ME} {p pos apos : Pos}
def omM (c m : Str) (F : MF) (mo : ME) (ms : MA) : ME := fun env h => (mo env h).bind fun d h => match insAt h d with
  | some (_, c', fs) => if c' = c ∧ fs.lookup m = none then (ms env h).bind fun ds h => F (d :: ds) h else .stuck
  | none => .stuck
theorem s_om (f : FM X.prog X.w X.K X.mg X.base c m k n F) (hr : Room j X.A) (hk : k ≤ j) (hl : (e :: es).length + 1 = n) (O : SE xp X o mo) (A : SA xp X (e :: es) ms)
    (hml : LenA (e :: es).length ms) {pl : Sem Bool} (hst : starEach (e :: es) X.env = (false, eval e X.env) :: starEach es X.env := by rfl) (hpl : (backTo pos (starEach es X.env)).any (·.1) = false := by rfl)
    (ht : eval (.Call (.Attribute o m apos) (e :: es) [] pos) X.env = (do let ov ← eval o X.env; standAt apos.atName; let (f, first) ← holding [ov] (getMethod ov m pl); callWith pos f first (backTo pos (starEach (e :: es) X.env)) (backToKw pos (keywordEach [] X.env))) := by rfl) :
    SE xp X (.Call (.Attribute o m apos) (e :: es) [] pos) (omM c m F mo ms) := fun W tk => by
  obtain ⟨to, po, ho⟩ := O W tk
  obtain ⟨ta, pa, ha⟩ := A W tk
  obtain ⟨fa, fd, ps, hc, hM, hb, hF⟩ := f.ex
  refine ⟨_, pe_methD po hc hM hF (hr.mono hk) hb (fun σ => passAt tk σ) pa hst hpl ht, fun ρ env ih σ H Q rl post0 => ?_⟩
  refine fstE (ta := to) ho rl (lkE (Q := Q)) post0 fun ρ1 d h1 v H1 e1 r1 p1 post => ?_
  have rl1 := rl.next e1 r1
  split at post
  · rename_i i c' fs q
    split at post
    · rename_i hc'
      obtain ⟨rfl, hm⟩ := hc'
      obtain ⟨a, dx, vs, rfl, h3, h4, h5⟩ := insAt_ok r1 q p1
      refine ⟨a, dx, vs, rfl, h4, h5.none hm, ?_⟩
      have hml := hml env h1
      revert post
      cases q2 : ms env h1 with
      | ok ds h2 =>
        intro post
        refine ha ρ1 env h1 σ H1 _ rl1 ?_
        rw [q2]
        intro ρ2 us H2 e2 r2 p2
        refine ⟨by rw [List.length_cons, ← p2.length, hml ds h2 q2]; exact hl, ρ2, d :: ds, h2, r2, .cons (p1.ext e2) p2, ?_⟩
        have post : PostE X.K X.mg W ρ2 σ H2 Q (F (d :: ds) h2) := PostE.ext post e2
        revert post
        cases F (d :: ds) h2 with
        | ok d h => exact fun post => post
        | exc x h => exact fun post => post
        | stuck => exact fun post => post
      | exc x h =>
        intro post
        refine ha ρ1 env h1 σ H1 _ rl1 ?_
        rw [q2]
        exact post
      | stuck => exact fun post => post.elim
    · exact post.elim
  · exact post.elim
end
/-! ### making instances -/
/-- the class named c is made by an __init__ that does F, for n values (self the first); ks: the names of those that are given by keyword -/
structure FI (P : Program) (w : World) (K : PySem.W.Frag) (mg : Str → Option Value) (base : Heap) (c : Str) (k n : Nat) (ks : List Str) (F : MF) : Prop where
  ex : ∃ (f : Addr) (fd : FuncData) (ps : List Str), mg c = some (.ref (He.ga K c)) ∧ Mk K (He.ga K c) f ∧ KBn K fd ps (n - ks.length) ks (fun us ws => us ++ ws) (fun vs zs => vs ++ zs) ∧ FnOk P w K mg base (L2.CX P w) k f fd ps (spF K mg n F)
theorem kbindsA {K : PySem.W.Frag} {x qual : Str} {params : Arguments} {body : List Stmt} {scope : Scope} {f : Addr} {fd : FuncData} {ps ks : List Str} (D : FunD K x qual params body scope [] [] f fd) (n : Nat)
    (h : ∀ (kV doc pm : Value) (an : Option Addr) (cdv ct : Value) (us ws : List Value), us.length = n → ws.length = ks.length → bindArgs (PySem.W.fnOf x qual params body scope .none kV doc pm an cdv ct) ⟨us, ks.zip ws⟩ = pure (ps.zip (us ++ ws))) :
    KBn K fd ps n ks (fun us ws => us ++ ws) (fun vs zs => vs ++ zs) := by
  obtain ⟨oc, od, dV, kV, doc, pm, an, cdv, ct, osl, rfl, lk, hcd, hD, hK⟩ := D.ex
  rcases hD with ⟨_, rfl⟩ | ⟨e, _⟩
  · exact ⟨fun s us ws _ l1 l2 => .of_eq (h kV doc pm an cdv ct us ws l1 l2), fun r1 r2 => r1.append r2⟩
  · exact absurd rfl e
section
variable {X : Cx} {CX : CXT} {k n : Nat} {f C : Addr} {fd : FuncData} {ps ks : List Str} {sp : Sp} {E : L2.St → XK} {x : Str} {p pos : Pos} {e : Expr} {es : List Expr} {kws : List Keyword} {t tk : TA}
def tMakeD (C : Addr) (n m : Nat) (sp : Sp) (E : L2.St → XK) (t tk : TA) : TE := fun σ H Q => t σ H fun vs H1 => tk σ H1 fun zs H2 => vs.length = n ∧ zs.length = m ∧ ∀ x dx, H2 x = none → H2 dx = none → dx ≠ x →
  sp (.ref x :: vs ++ zs) (upd (upd H2 dx (.own x)) x (.ins C dx [])) (fun v H3 => v = .non ∧ Q (.ref x) H3) (E σ)
theorem run_makeD {pins : List (Addr × Obj)} {σ : L2.St} {H : Hp} {s : Shared} {Q : VK} {us ws : List Value} {vs zs : List V} (M : Mk X.K C f) (F : FnOk X.prog X.w X.K X.mg X.base CX k f fd ps sp) (hr : Room (k + 1) X.A) (hb : KBn X.K fd ps (n + 1) ks (fun us ws => us ++ ws) (fun vs zs => vs ++ zs))
    (hx : PassesAt CX X σ (E σ)) (I : Inv X pins σ H s) (r : Vals vs us) (rz : Vals zs ws) (l1 : vs.length = n) (l2 : zs.length = ks.length)
    (h : ∀ x dx, H x = none → H dx = none → dx ≠ x → sp (.ref x :: vs ++ zs) (upd (upd H dx (.own x)) x (.ins C dx [])) (fun v H2 => v = .non ∧ Q (.ref x) H2) (E σ)) :
    wpAny (model X.prog X.w) X.A (call (.ref C) us (ks.zip ws)) (EP X pins σ Q) X.xe s := by
  have hq := h (s.heap.objs.size + 1) s.heap.objs.size (I.hok.fresh (Nat.le_succ _)) (I.hok.fresh (Nat.le_refl _)) (Nat.ne_of_lt (Nat.lt_succ_self _))
  have I2 := Inv.made (C := C) I; have r1 : Vals (V.ref (s.heap.objs.size + 1) :: vs) (Value.ref (s.heap.objs.size + 1) :: us) := .cons rfl r; have r2 := hb.rel r1 rz
  have n1 : (Value.ref (s.heap.objs.size + 1) :: us).length = n + 1 := by rw [List.length_cons, ← r.length, l1]
  refine wpAny_call (make_map (f := f) I.kIn M.makes M.init (beq_iff_eq.mp M.fn) (codeAny_mono (F.run _ X.stack _ _ ⟨Value.ref (s.heap.objs.size + 1) :: us, ks.zip ws⟩ (Value.ref (s.heap.objs.size + 1) :: us ++ ws) _ _ (E σ) (hr.make C us (ks.zip ws)) (I2.env0.make C us (ks.zip ws)) (hb.to _ (Value.ref (s.heap.objs.size + 1) :: us) ws I2.kIn n1 (rz.length.symm.trans l2)) r2 hq) fun r s' hq' => ?_))
  cases r with
  | error e => exact hx pins _ _ e s' I2 hq'
  | ok fl =>
    cases fl with
    | ret u => obtain ⟨v, H', I3, rv, ev, q3⟩ := I2.after hq'; subst ev; exact ⟨rv, ⟨V.ref (s.heap.objs.size + 1), H', I3, rfl, q3⟩⟩
    | next => exact hq'.elim
    | brk => exact hq'.elim
    | cont => exact hq'.elim
theorem pe_makeDp (M : Mk X.K C f) (F : FnOk X.prog X.w X.K X.mg X.base CX k f fd ps sp) (hr : Room (k + 1) X.A) (hg : Gl X x) (hm : X.mg x = some (.ref C)) (hb : KBn X.K fd ps (n + 1) [] (fun us ws => us ++ ws) (fun vs zs => vs ++ zs)) (hx : ∀ σ, PassesAt CX X σ (E σ)) (ha : PA X (e :: es) t)
    (hdb : (x == ("__debug__" : Str)) = false := by decide) (he : starEach (e :: es) X.env = (false, eval e X.env) :: starEach es X.env := by rfl) (hpl : (backTo pos (starEach es X.env)).any (·.1) = false := by rfl) :
    PE X (.Call (.Name x p) (e :: es) [] pos) (tMakeD C n 0 sp E t tNil) :=
  ⟨fun pins s σ H Q I h => wpAny_Call_Name_kw (ld_glob I hg hm (PySem.W.callWith_K (h₀ := X.base) I.ok.mod.kin M.kp (thn (ha.run pos pins s σ H _ I h) fun us s1 ⟨vs, H1, I1, r, l1, l2, q⟩ => ⟨I1.kIn, run_makeD (ws := []) (zs := []) M F hr hb (hx σ) I1 r .nil l1 rfl q⟩) he hpl) hdb)⟩
end
section
variable {xp : Option XP} {X : Cx} {e o : Expr} {es : List Expr} {c m x : Str} {k j n : Nat} {F : MF} {ms : MA} {ma : ME} {p pos kpos : Pos}
def mkM (c : Str) (F : MF) (ms : MA) : ME := fun env h => (ms env h).bind fun ds h => (F (.ref h.length :: ds) (h ++ [.ins c []])).bind fun v h2 => match v with
  | .non => .ok (.ref h.length) h2
  | _ => .stuck
theorem allocO {K : PySem.W.Frag} {ρ : Rho} {ih : IH} {H : Hp} (r : RelH K ρ ih H) {x dx : Addr} {c : Str} (hp : H x = none) (hd : H dx = none) (ne : dx ≠ x) :
    ∃ ρ', Ext ρ H ρ' (upd (upd H dx (.own x)) x (.ins (He.ga K c) dx [])) ∧ RelH K ρ' (ih ++ [.ins c []]) (upd (upd H dx (.own x)) x (.ins (He.ga K c) dx [])) ∧ RepV K ρ' (upd (upd H dx (.own x)) x (.ins (He.ga K c) dx [])) (.ref ih.length) (.ref x) ∧ ρ'.as = ρ.as ++ [x] := by
  have ag : ∀ b o, H b = some o → upd (upd H dx (.own x)) x (.ins (He.ga K c) dx []) b = some o := fun b o e => by rw [upd_ne (ne_of_none e hp), upd_ne (ne_of_none e hd)]; exact e
  have xt : Ext ρ H ⟨ρ.as ++ [x]⟩ (upd (upd H dx (.own x)) x (.ins (He.ga K c) dx [])) :=
    ⟨List.prefix_append _ _, fun a z => by
      rcases List.mem_append.mp z with z | z
      · exact .inl z
      · rw [List.mem_singleton.mp z]; exact .inr hp, fun a o e _ => ag a o e, fun a o e => ag a _ e, fun a o u e => ag a _ e, fun a o e => ag a _ e⟩
  have np : x ∉ ρ.as := fun z => by
    obtain ⟨o, e⟩ := r.ne_none z
    rw [hp] at e; cases e
  refine ⟨⟨ρ.as ++ [x]⟩, xt, ⟨by simp [r.len], List.nodup_append.mpr ⟨r.nd, by simp, fun a ha b hb => by
    rw [List.mem_singleton.mp hb]; rintro rfl; exact np ha⟩, fun n a u e1 e2 => ?_⟩, .ref ?_, rfl⟩
  · by_cases hn : n < ih.length
    · have hn' : n < ρ.as.length := by rw [r.len]; exact hn
      rw [List.getElem?_append_left hn'] at e1
      rw [List.getElem?_append_left hn] at e2
      obtain ⟨z, hz⟩ := r.ne_none (List.mem_of_getElem? e1)
      exact (r.obj n a u e1 e2).ext xt (by rw [ag a z hz, hz])
    · have hl : n < (ih ++ [IO.ins c []]).length := (List.getElem?_eq_some_iff.mp e2).1
      have en : n = ih.length := by simp at hl; omega
      subst en
      have q1 : (ρ.as ++ [x])[ih.length]? = some x := by rw [← r.len]; simp
      have e1' : (ρ.as ++ [x])[ih.length]? = some a := e1
      rw [q1] at e1'; cases e1'
      have q2 : (ih ++ [IO.ins c []])[ih.length]? = some (.ins c []) := by simp
      rw [q2] at e2; cases e2
      exact ⟨dx, [], upd_same, .nil⟩
  · show (ρ.as ++ [x])[ih.length]? = some x
    rw [← r.len]; simp
/-- what __init__ does with a new instance, in the reading -/
theorem init_ok {K : PySem.W.Frag} {mg : Str → Option Value} {W : WX} {ρ : Rho} {σ : L2.St} {H : Hp} {Q : VK} {ds : List D} {ih : IH} {vs : List V} {n : Nat} (r : RelH K ρ ih H) (p1 : RepL K ρ H ds vs) (hl : ds.length + 1 = n)
    (post : PostE K mg W ρ σ H Q ((F (.ref ih.length :: ds) (ih ++ [.ins c []])).bind fun v h2 => match v with
      | .non => .ok (.ref ih.length) h2
      | _ => .stuck)) {x dx : Addr} (hp : H x = none) (hd : H dx = none) (ne : dx ≠ x) :
    spF K mg n F (.ref x :: vs) (upd (upd H dx (.own x)) x (.ins (He.ga K c) dx [])) (fun v H3 => v = .non ∧ Q (.ref x) H3) (WE W σ) := by
  obtain ⟨ρ', xt, r', rv, er⟩ := allocO (c := c) r hp hd ne
  refine ⟨by rw [List.length_cons, ← p1.length]; exact hl, ρ', .ref ih.length :: ds, ih ++ [.ins c []], r', .cons rv (p1.ext xt), ?_⟩
  have post : PostE K mg W ρ' σ _ Q _ := PostE.ext post xt
  revert post
  cases F (.ref ih.length :: ds) (ih ++ [.ins c []]) with
  | ok v h2 =>
    intro post ρ2 u H2 x2 r2 rv2
    cases v with
    | non =>
      cases rv2
      have hx : ρ'.as[ih.length]? = some x := by
        cases rv with
        | ref h => exact h
      exact ⟨rfl, post ρ2 (.ref x) H2 x2 r2 (.ref (x2.get hx))⟩
    | _ => exact post.elim
  | exc y h2 => exact fun post => post
  | stuck => exact fun post => post
theorem s_mk (f : FI X.prog X.w X.K X.mg X.base c k n [] F) (hr : Room j X.A) (hk : k + 1 ≤ j) (hg : Gl X c) (hl : (e :: es).length + 1 = n) (A : SA xp X (e :: es) ms) (hml : LenA (e :: es).length ms)
    (hdb : (c == ("__debug__" : Str)) = false := by decide) (he : starEach (e :: es) X.env = (false, eval e X.env) :: starEach es X.env := by rfl) (hpl : (backTo pos (starEach es X.env)).any (·.1) = false := by rfl) : SE xp X (.Call (.Name c p) (e :: es) [] pos) (mkM c F ms) := fun W tk => by
  obtain ⟨ta, pa, ha⟩ := A W tk
  obtain ⟨fa, fd, ps, hm, hM, hb, hF⟩ := f.ex
  subst hl
  refine ⟨_, pe_makeDp (n := (e :: es).length) hM hF (hr.mono hk) hg hm hb (fun σ => passAt tk σ) pa hdb he hpl, fun ρ env ih σ H Q rl post => ?_⟩
  have hml := hml env ih
  revert post
  show PostE X.K X.mg W ρ σ H Q ((ms env ih).bind _) → _
  cases q : ms env ih with
  | ok ds h1 =>
    intro post
    refine ha ρ env ih σ H _ rl ?_
    rw [q]
    intro ρ1 vs H1 e1 r1 p1
    have hd := hml ds h1 q
    refine ⟨by rw [← p1.length, hd], rfl, fun x dx hp hdx ne => ?_⟩
    have := init_ok (F := F) (c := c) r1 p1 (by rw [hd]) (PostE.ext post e1) hp hdx ne
    rw [List.append_nil]
    exact this
  | exc x h =>
    intro post
    refine ha ρ env ih σ H _ rl ?_
    rw [q]
    exact post
  | stuck => exact fun post => post.elim
end
end Z
/-! Z17: comprehensions of two clauses. -/
namespace Z
open PySem PySem.Spec PyProof.Rows L2
/-- the item at a place: none: no walk; some none: the end -/
def itm : Src → IH → Nat → Option (Option D)
  | .snap ds, _, i => if i ≤ ds.length then some ds[i]? else none
  | .live v, h, i => (v h).map fun ds => ds[i]?
/-- an item more in the list n -/
def appL (n : Nat) (y : D) (h : IH) : Option IH := match h[n]? with
  | some (.lst acc) => if acc.length < sizeLine then some (h.set n (.lst (acc ++ [y]))) else none
  | _ => none
/-- all items, in a row -/
def lcJ (s : Src) (k : D → IH → Option IH) : Nat → Nat → IH → Option IH
  | 0, _, _ => none
  | m + 1, i, h => match itm s h i with
    | none => none
    | some none => some h
    | some (some d) => (k d h).bind (lcJ s k m (i + 1))
/-- one item -/
def onJ (g : MG) (mt : MT) (env : Ev) (k : Ev → IH → Option IH) (d : D) (h : IH) : Option IH := match g d env with
  | none => none
  | some e => match mt e h with
    | .ok b h => if b = true then k e h else some h
    | _ => none
def putJ (n : Nat) (me : ME) (e : Ev) (h : IH) : Option IH := match me e h with
  | .ok y h => appL n y h
  | _ => none
/-- the second clause -/
def in2J (mi1 : MI) (own1 : List Nat) (g1 : MG) (mt1 : MT) (me : ME) (n : Nat) (e : Ev) (h : IH) : Option IH := match mi1 e h with
  | .ok s1 h => lcJ s1 (onJ g1 mt1 (wipeE e own1) (putJ n me)) MOST 0 h
  | _ => none
def lc2M (mi : MI) (own : List Nat) (g : MG) (mt : MT) (mi1 : MI) (own1 : List Nat) (g1 : MG) (mt1 : MT) (me : ME) : ME := fun env h => (mi env h).bind fun s h =>
  match lcJ s (onJ g mt (wipeE env own) (in2J mi1 own1 g1 mt1 me h.length)) MOST 0 (h ++ [.lst []]) with
  | some h' => .ok (.ref h.length) h'
  | none => .stuck
theorem itm_go {K : PySem.W.Frag} {J : It} {ρ0 ρ : Rho} {H0 H : Hp} {s : Src} {ih : IH} {i : Nat} {d : D} (it : ItOk K J ρ0 H0 s) (x : Ext ρ0 H0 ρ H) (r : RelH K ρ ih H) (e : itm s ih i = some (some d)) :
    J.go i H ∧ ∀ x H', J.yld i H x H' → Ext ρ H ρ H' ∧ RelH K ρ ih H' ∧ RepV K ρ H' d x := by
  cases s with
  | snap ds =>
    have e : (if i ≤ ds.length then some ds[i]? else none) = some (some d) := e
    split at e
    · exact (show ItS K J ρ0 H0 ds from it).go i d ρ H ih x r (Option.some.inj e)
    · cases e
  | live v =>
    obtain ⟨ds, e1, e2⟩ := Option.map_eq_some_iff.mp (show (v ih).map (fun ds => ds[i]?) = some (some d) from e)
    exact (show ItV K J ρ0 H0 v from it).go i d ρ H ih ds x r e1 e2
theorem itm_stop {K : PySem.W.Frag} {J : It} {ρ0 ρ : Rho} {H0 H : Hp} {s : Src} {ih : IH} {i : Nat} (it : ItOk K J ρ0 H0 s) (x : Ext ρ0 H0 ρ H) (r : RelH K ρ ih H) (e : itm s ih i = some none) : J.stop i H := by
  cases s with
  | snap ds =>
    have e : (if i ≤ ds.length then some ds[i]? else none) = some none := e
    split at e
    · rename_i c
      have := List.getElem?_eq_none_iff.mp (Option.some.inj e)
      have ei : i = ds.length := by omega
      rw [ei]
      exact (show ItS K J ρ0 H0 ds from it).stop ρ H x
    · cases e
  | live v =>
    obtain ⟨ds, e1, e2⟩ := Option.map_eq_some_iff.mp (show (v ih).map (fun ds => ds[i]?) = some none from e)
    exact (show ItV K J ρ0 H0 v from it).stop i ρ H ih ds x r e1 e2
section
variable {xp : Option XP} {X : Cx} {scope : Scope} {vs vs1 : List Nat} {pos : Pos}
/-- what is wanted of the heap at the end -/
def Fin2 (K : PySem.W.Frag) (ρ : Rho) (H : Hp) (Q : VK) (n : Nat) (r : Option IH) : Prop := match r with
  | some h => ∀ ρ' v H', Ext ρ H ρ' H' → RelH K ρ' h H' → RepV K ρ' H' (.ref n) v → Q v H'
  | none => False
theorem Fin2.some {K : PySem.W.Frag} {ρ : Rho} {H : Hp} {Q : VK} {n : Nat} : ∀ {r : Option IH} {f : IH → Option IH}, Fin2 K ρ H Q n (r.bind f) → ∃ h, r = some h ∧ Fin2 K ρ H Q n (f h)
  | .some h, _, p => ⟨h, rfl, p⟩
  | .none, _, p => p.elim
def canI (K : PySem.W.Frag) (mg : Str → Option Value) (xp : Option XP) (m : MI) : TI := fun σ H R => ∃ ρ env ih, Rel K xp ρ env ih σ H ∧ PostI K mg (fun _ _ _ _ => False) ρ σ H R (m env ih)
theorem SI.can {Y : Cx} {tg e : Expr} {m : MI} (S : SI xp Y tg e m) : PI Y tg e (canI Y.K Y.mg xp m) := by
  obtain ⟨t, pt, ht⟩ := S (fun _ _ _ _ => False) takes0
  exact ⟨fun pins s σ H R I ⟨ρ, env, ih, rl, post⟩ => pt.run pins s σ H R I (ht ρ env ih σ H R rl post)⟩
/-- the state of the walk -/
def At2 (K : PySem.W.Frag) (ρ0 : Rho) (H0 : Hp) (ρ1 : Rho) (H1 : Hp) (Q : VK) (n : Nat) (k : IH → Option IH) (H : Hp) : Prop := ∃ ρ ih, Ext ρ1 H1 ρ H ∧ RelH K ρ ih H ∧ Fin2 K ρ0 H0 Q n (k ih)
theorem lc2_red {W : WX} {wi : TI} {tG tG1 : TG} {tT tT1 : TT} {mi mi1 : MI} {g g1 : MG} {mt mt1 : MT} {me : ME} {ρ : Rho} {env : Ev} {ih : IH} {σ : L2.St} {H : Hp} {Q : VK}
    (hi : ∀ ρ env ih σ H Q, Rel X.K xp ρ env ih σ H → PostI X.K X.mg W ρ σ H Q (mi env ih) → wi σ H Q)
    (hG : ∀ ρ env ih σ H Q d v env', Rel X.K xp ρ env ih σ H → RepV X.K ρ H d v → g d env = some env' → (∀ σ', Rel X.K xp ρ env' ih σ' H → L2.wipe σ' vs = L2.wipe σ vs → Q σ' H) → tG v σ H Q)
    (hT : ∀ ρ env ih σ H Q, Rel X.K xp ρ env ih σ H → PostT X.K X.mg (fun _ _ _ _ => False) ρ σ H Q (mt env ih) → tT σ H Q)
    (hG1 : ∀ ρ env ih σ H Q d v env', Rel X.K xp ρ env ih σ H → RepV X.K ρ H d v → g1 d env = some env' → (∀ σ', Rel X.K xp ρ env' ih σ' H → L2.wipe σ' vs1 = L2.wipe σ vs1 → Q σ' H) → tG1 v σ H Q)
    (hT1 : ∀ ρ env ih σ H Q, Rel X.K xp ρ env ih σ H → PostT X.K X.mg (fun _ _ _ _ => False) ρ σ H Q (mt1 env ih) → tT1 σ H Q)
    (rl : Rel X.K xp ρ env ih σ H) (post : PostE X.K X.mg W ρ σ H Q (lc2M mi vs g mt mi1 vs1 g1 mt1 me env ih)) : tLc2 wi tG tT (canI X.K X.mg xp mi1) tG1 tT1 (canE X.K X.mg xp me) vs vs1 σ H Q := by
  refine hi ρ env ih σ H _ rl ?_
  unfold lc2M at post
  revert post
  cases mi env ih with
  | exc x h => exact fun post => post
  | stuck => exact fun post => post
  | ok s h1 =>
    intro post ρ1 J H1 x1 r1 it D' hD'
    have post : PostE X.K X.mg W ρ σ H Q (match lcJ s (onJ g mt (wipeE env vs) (in2J mi1 vs1 g1 mt1 me h1.length)) MOST 0 (h1 ++ [.lst []]) with
      | some h' => .ok (.ref h1.length) h'
      | none => .stuck) := post
    generalize hk : onJ g mt (wipeE env vs) (in2J mi1 vs1 g1 mt1 me h1.length) = k at post
    generalize hn : h1.length = n at post hk
    have post : Fin2 X.K ρ H Q n (lcJ s k MOST 0 (h1 ++ [.lst []])) := by
      revert post
      cases lcJ s k MOST 0 (h1 ++ [.lst []]) with
      | none => exact fun p => p
      | some h => exact fun p ρ' v H' y rl rv => p ρ' v H' y rl rv
    obtain ⟨ρ2, x2, r2, rv2⟩ := alloc r1 hD' (.nil : RepL X.K ρ1 H1 [] [])
    rw [hn] at rv2
    have hidx : ρ2.as[n]? = some D' := by
      cases rv2 with
      | ref h => exact h
    have rw2 : Rel X.K xp ρ2 (wipeE env vs) (h1 ++ [.lst []]) (L2.wipe σ vs) (upd H1 D' (.lst [])) := ((rl.wipe vs).next x1 r1).next x2 r2
    refine ⟨fun i m H' => At2 X.K ρ H ρ2 (upd H1 D' (.lst [])) Q n (fun ih => lcJ s k m i ih) H', ⟨MOST, ρ2, _, .refl, r2, post⟩, ?_⟩
    rintro i m H3 ⟨ρ3, ih3, x3, r3, post3⟩
    cases m with
    | zero => exact post3.elim
    | succ m =>
      have post3 : Fin2 X.K ρ H Q n (match itm s ih3 i with
        | none => none
        | some none => some ih3
        | some (some d) => (k d ih3).bind (lcJ s k m (i + 1))) := post3
      cases hd : itm s ih3 i with
      | none => rw [hd] at post3; exact post3.elim
      | some od =>
        rw [hd] at post3
        cases od with
        | none => exact .inl ⟨itm_stop it (x2.trans x3) r3 hd, post3 ρ3 _ H3 ((x1.trans x2).trans x3) r3 (.ref (x3.get hidx))⟩
        | some d =>
          obtain ⟨go, yl⟩ := itm_go it (x2.trans x3) r3 hd
          refine .inr ⟨go, At2 X.K ρ H ρ2 (upd H1 D' (.lst [])) Q n (fun ih => lcJ s k m (i + 1) ih), fun H' h => ⟨m, Nat.lt_succ_self _, h⟩, fun x H4 y => ?_⟩
          obtain ⟨x4, r4, rv4⟩ := yl x H4 y
          obtain ⟨h5, ek, post4⟩ := post3.some
          rw [← hk] at ek
          unfold onJ at ek
          have rl4 := rw2.next (x3.trans x4) r4
          split at ek
          · cases ek
          · rename_i e eg
            refine hG ρ3 _ ih3 _ H4 _ d x e rl4 rv4 eg fun σ1 q1 w1 => ⟨w1.trans wipe_idem, hT ρ3 e ih3 σ1 H4 _ q1 ?_⟩
            revert ek
            cases mt e ih3 with
            | exc x h => exact fun ek => nomatch ek
            | stuck => exact fun ek => nomatch ek
            | ok b h6 =>
              intro ek ρ6 H6 x6 r6
              have x26 := (x3.trans x4).trans x6
              have rl6 := q1.next x6 r6
              cases b with
              | false =>
                have ek : some h6 = some h5 := ek
                cases ek
                exact ⟨ρ6, _, x26, r6, post4⟩
              | true =>
                have ek : in2J mi1 vs1 g1 mt1 me n e h6 = some h5 := ek
                refine ⟨ρ6, e, h6, rl6, ?_⟩
                unfold in2J at ek
                revert ek
                cases mi1 e h6 with
                | exc x h => exact fun ek => nomatch ek
                | stuck => exact fun ek => nomatch ek
                | ok s1 h7 =>
                  intro ek ρ7 J1 H7 x7 r7 it1
                  have ek : lcJ s1 (onJ g1 mt1 (wipeE e vs1) (putJ n me)) MOST 0 h7 = some h5 := ek
                  have rl7 : Rel X.K xp ρ7 (wipeE e vs1) h7 (L2.wipe σ1 vs1) H7 := (rl6.wipe vs1).next x7 r7
                  generalize hk1 : onJ g1 mt1 (wipeE e vs1) (putJ n me) = k1 at ek
                  refine ⟨fun j p H' => ∃ ρ' ih', Ext ρ7 H7 ρ' H' ∧ RelH X.K ρ' ih' H' ∧ lcJ s1 k1 p j ih' = some h5, ⟨MOST, ρ7, h7, .refl, r7, ek⟩, ?_⟩
                  rintro j p H8 ⟨ρ8, ih8, x8, r8, e8⟩
                  cases p with
                  | zero => cases e8
                  | succ p =>
                    have e8 : (match itm s1 ih8 j with
                      | none => none
                      | some none => some ih8
                      | some (some d) => (k1 d ih8).bind (lcJ s1 k1 p (j + 1))) = some h5 := e8
                    cases hd1 : itm s1 ih8 j with
                    | none => rw [hd1] at e8; cases e8
                    | some od1 =>
                      rw [hd1] at e8
                      cases od1 with
                      | none =>
                        have e8 : some ih8 = some h5 := e8
                        have e8' := Option.some.inj e8
                        rw [← e8'] at post4
                        exact .inl ⟨itm_stop it1 x8 r8 hd1, ρ8, ih8, (x26.trans x7).trans x8, r8, post4⟩
                      | some d1 =>
                        obtain ⟨go1, yl1⟩ := itm_go it1 x8 r8 hd1
                        refine .inr ⟨go1, fun H' => ∃ ρ' ih', Ext ρ7 H7 ρ' H' ∧ RelH X.K ρ' ih' H' ∧ lcJ s1 k1 p (j + 1) ih' = some h5, fun H' h => ⟨p, Nat.lt_succ_self _, h⟩, fun x' H9 y' => ?_⟩
                        obtain ⟨x9, r9, rv9⟩ := yl1 x' H9 y'
                        obtain ⟨h9, ek1, e9⟩ := Option.bind_eq_some_iff.mp (show (k1 d1 ih8).bind (lcJ s1 k1 p (j + 1)) = some h5 from e8)
                        rw [← hk1] at ek1
                        unfold onJ at ek1
                        have rl9 := rl7.next (x8.trans x9) r9
                        split at ek1
                        · cases ek1
                        · rename_i e1 eg1
                          refine hG1 ρ8 _ ih8 _ H9 _ d1 x' e1 rl9 rv9 eg1 fun σ2 q2 w2 => ⟨w2.trans wipe_idem, hT1 ρ8 e1 ih8 σ2 H9 _ q2 ?_⟩
                          revert ek1
                          cases mt1 e1 ih8 with
                          | exc x h => exact fun ek => nomatch ek
                          | stuck => exact fun ek => nomatch ek
                          | ok b1 h10 =>
                            intro ek1 ρ10 H10 x10 r10
                            have x710 := (x8.trans x9).trans x10
                            cases b1 with
                            | false =>
                              have ek1 : some h10 = some h9 := ek1
                              cases ek1
                              exact ⟨ρ10, _, x710, r10, e9⟩
                            | true =>
                              have ek1 : putJ n me e1 h10 = some h9 := ek1
                              refine ⟨ρ10, e1, h10, q2.next x10 r10, ?_⟩
                              unfold putJ at ek1
                              revert ek1
                              cases me e1 h10 with
                              | exc x h => exact fun ek => nomatch ek
                              | stuck => exact fun ek => nomatch ek
                              | ok y h11 =>
                                intro ek1 ρ11 u H11 x11 r11 ru
                                have ek1 : appL n y h11 = some h9 := ek1
                                unfold appL at ek1
                                split at ek1
                                · rename_i acc ha
                                  split at ek1
                                  · rename_i hlen
                                    cases ek1
                                    have hi11 : ρ11.as[n]? = some D' := (((x26.trans x7).trans x710).trans x11).get hidx
                                    obtain ⟨av, hv, ra⟩ := r11.lst hi11 ha
                                    obtain ⟨x12, r12⟩ := rewrite r11 hi11 hv (ra.append (.cons ru .nil))
                                    exact ⟨av, hv, by rw [← ra.length]; exact hlen, ρ11, _, (x710.trans x11).trans x12, r12, e9⟩
                                  · cases ek1
                                · cases ek1
end
end Z
/-! Z18: isinstance of own classes; dicts of the top; sorted. -/
namespace Z
open PySem PySem.Spec PyProof.Rows L2
section
variable {xp : Option XP} {X : Cx} {a b e : Expr} {ma mb mo : ME} {ms : MA} {p pos : Pos}
/-! ### isinstance(e, C), C an own class -/
/-! ### sorted -/
theorem CallR.or {f : Value} {r r' : List V → Hp → VK → Prop} (h : CallR X f r) (g : CallR X f r') : CallR X f (fun vs H Q => r vs H Q ∨ r' vs H Q) := fun pins s σ H vs us Q I rv q => q.elim (h pins s σ H vs us Q I rv) (g pins s σ H vs us Q I rv)
theorem RepL.ints {K : PySem.W.Frag} {ρ : Rho} {H : Hp} : ∀ ns : List Int, RepL K ρ H (ns.map D.int) (ns.map V.int)
  | [] => .nil
  | i :: ns => .cons (.int i) (RepL.ints ns)
theorem RepL.mem {K : PySem.W.Frag} {ρ : Rho} {H : Hp} : ∀ {ds : List D} {vs : List V}, RepL K ρ H ds vs → ∀ v ∈ vs, ∃ d ∈ ds, RepV K ρ H d v
  | _, _, .nil, v, h => by cases h
  | _, _, .cons r t, v, h => by
    rcases List.mem_cons.mp h with rfl | h
    · exact ⟨_, List.mem_cons_self, r⟩
    · obtain ⟨d, h1, h2⟩ := RepL.mem t v h
      exact ⟨d, List.mem_cons_of_mem _ h1, h2⟩
/-! ### & -/
/-! ### x.get(k, d), x a dict of the top -/
/-- the dict named x has these pairs -/
def DicT (K : PySem.W.Frag) (mg : Str → Option Value) (w : World) (x : Str) (kvs : List (Str × D)) : Prop :=
  mg x = some (.ref (He.ga K x)) ∧ (∃ es n, KDict K w (He.ga K x) es n ∧ es.toList.map He.keyOf = He.keysIn w.params (kvs.map Prod.fst)) ∧
    ∀ k d, (k, d) ∈ kvs → ∃ u v, PySem.W.nsIn K (He.ga K x) k = some (some u) ∧ RelV v u ∧ ∀ ρ H, RepV K ρ H d v
end
/-! ### what the table says -/
section
variable {t : Tab} {K : PySem.W.Frag} {mg : Str → Option Value} {w : World}
def Tab.ofok (t : Tab) (c f : Str) : Bool := (t.own.any fun x => match x with | .noat c' f' => decide (c' = c ∧ f' = f) | _ => false) && t.own.any fun x => match x with | .cls c' => decide (c' = c) | _ => false
theorem Tx.ofokE (T : Tx t K mg) : OwnF K t.ofok := fun c f h => by
  obtain ⟨h1, h2⟩ := He.ba h
  obtain ⟨x, m1, q1⟩ := List.any_eq_true.mp h1
  obtain ⟨y, m2, q2⟩ := List.any_eq_true.mp h2
  constructor
  · split at q2
    · have := of_decide_eq_true q2
      subst this
      exact He.cls_ok (T.fact m2)
    · cases q2
  · split at q1
    · obtain ⟨rfl, rfl⟩ := of_decide_eq_true q1
      exact He.noat_ok (T.fact m1)
    · cases q1
def Tab.kitB (t : Tab) (T : Str) : String ⊕ Str → Option Bool
  | .inl s => (t.kit.find? fun p => decide (p.1 = T ∧ p.2.1 = s)).map (·.2.2)
  | .inr c => if c ∈ t.icl then (t.kio.find? fun p => decide (p.1 = T ∧ p.2.1 = c)).map (·.2.2) else none
theorem Tx.dic (T : Tx t K mg) {fn : List He.DefD} (c : SaysZ t fn w K) (i : Nat) (x : Str) (kvs : List (Str × D)) (h : t.dts[i]? = some (x, kvs)) (hc : x ∈ t.cls) : DicT K mg w x kvs :=
  ⟨T.mc x hc, c.dict i h, fun k d hk => T.dtV (List.mem_of_getElem? h) hk⟩
/-- a method, by its body -/
theorem fm_of {P : Program} {base : Heap} {c m x qual : Str} {params : Arguments} {body : List Stmt} {scope : Scope} {fd : FuncData} {N ps : List Str} {k n : Nat} {b : MS} (F : FunD K x qual params body scope [] [] (He.ma K (He.ga K c) m) fd) (S : FnScope N ps scope) (hn : n = N.length)
    (T : Tx t K mg) (h1 : He.Fa.cls c ∈ t.own) (h2 : He.Fa.meth c m ∈ t.own) (hb : Binds K fd ps [])
    (B : ∀ (cdv : Value) (A : Around) (outer : List PySem.Env) (s : Shared) (H : Hp) (E : XK), Room k (A.deeper (envOfC qual scope s.heap.objs.size (He.ma K (He.ga K c) m) cdv)) → SSs none (cxOf (L2.CX P w) P w K mg base N qual scope (He.ma K (He.ga K c) m) cdv A outer s H E) body b) :
    FM P w K mg base c m (k + 1) ps.length (defM n b) := ⟨_, fd, ps, He.cls_ok (T.fact h1), He.meth_ok (T.fact h2), hb, fn_sim F S hn B⟩
/-- an __init__ -/
theorem fi_of {P : Program} {base : Heap} {c x qual : Str} {params : Arguments} {body : List Stmt} {scope : Scope} {fd : FuncData} {N ps ks : List Str} {k n j : Nat} {b : MS} (F : FunD K x qual params body scope [] [] (He.ma K (He.ga K c) "__init__") fd) (S : FnScope N ps scope) (hn : n = N.length)
    (T : Tx t K mg) (h0 : c ∈ t.cls) (h2 : He.Fa.mkr c ∈ t.own) (hj : ps.length - ks.length = j)
    (hbk : ∀ (kV doc pm : Value) (an : Option Addr) (cdv ct : Value) (us ws : List Value), us.length = j → ws.length = ks.length → bindArgs (PySem.W.fnOf x qual params body scope .none kV doc pm an cdv ct) ⟨us, ks.zip ws⟩ = pure (ps.zip (us ++ ws)))
    (B : ∀ (cdv : Value) (A : Around) (outer : List PySem.Env) (s : Shared) (H : Hp) (E : XK), Room k (A.deeper (envOfC qual scope s.heap.objs.size (He.ma K (He.ga K c) "__init__") cdv)) → SSs none (cxOf (L2.CX P w) P w K mg base N qual scope (He.ma K (He.ga K c) "__init__") cdv A outer s H E) body b) :
    FI P w K mg base c (k + 1) ps.length ks (defM n b) := ⟨_, fd, ps, T.mc c h0, He.mkr_ok (T.fact h2), by rw [hj]; exact kbindsA F j hbk, fn_sim F S hn B⟩
/-- fields of these classes, named f -/
def okF (cs : List Str) (f : Str) : Str → Str → Bool := fun c g => decide (c ∈ cs ∧ g = f)
theorem Tx.okFE (T : Tx t K mg) {cs : List Str} {f : Str} (h : (cs.all fun c => t.ofok c f) = true) : OwnF K (okF cs f) := fun c g e => by
  obtain ⟨e1, rfl⟩ := of_decide_eq_true e
  exact T.ofokE c g (List.all_eq_true.mp h c e1)
/-- the single argument -/
def oneM (ms : MA) : ME := fun env h => (ms env h).bind fun ds h => match ds with
  | [d] => .ok d h
  | _ => .stuck
end
theorem si_enumA {xp : Option XP} {X : Cx} {e : Expr} {ms : MA} {p pos : Pos} {elts : List Expr} {kk : Nat} {tpos : Pos} (hg : Gl X "enumerate") (hm : X.mg "enumerate" = none) (A : SA xp X [e] ms) (hs : starEach [e] X.env = [(false, eval e X.env)] := by rfl) :
    SI xp X (.Tuple elts kk tpos) (.Call (.Name "enumerate" p) [e] [] pos) (enumI (oneM ms)) := si_enum hg hm A hs
/-- a def that stands under another name -/
theorem fs_as {P : Program} {w : World} {K : PySem.W.Frag} {mg : Str → Option Value} {base : Heap} {x y qual : Str} {params : Arguments} {body : List Stmt} {scope : Scope} {f : Addr} {fd : FuncData} {N ps : List Str} {k n : Nat} {m : MS} (F : FunD K x qual params body scope [] [] f fd) (S : FnScope N ps scope) (hn : n = N.length) (hm : mg y = some (.ref f)) (hb : Binds K fd ps [])
    (B : ∀ (cdv : Value) (A : Around) (outer : List PySem.Env) (s : Shared) (H : Hp) (E : XK), Room k (A.deeper (envOfC qual scope s.heap.objs.size f cdv)) → SSs none (cxOf (L2.CX P w) P w K mg base N qual scope f cdv A outer s H E) body m) :
    FS P w K mg base y (k + 1) ps.length (defM n m) := ⟨f, fd, ps, hm, F.kp, hb, fn_sim F S hn B⟩
end Z
/-! Z19: dicts with keys of ints and texts, or tuples of ints. -/
namespace Z
open PySem PySem.Spec PyProof.Rows L2
/-! ### tables -/
section
variable {κ β : Type} [DecidableEq κ]
def getB (kvs : List (κ × β)) (k : κ) : Option β := (kvs.find? fun kv => decide (kv.1 = k)).map (·.2)
def putB (kvs : List (κ × β)) (k : κ) (v : β) : List (κ × β) :=
  if (kvs.any fun kv => decide (kv.1 = k)) = true then kvs.map (fun kv => if kv.1 = k then (kv.1, v) else kv) else kvs ++ [(k, v)]
theorem getB_pos {p : κ × β} {r : List (κ × β)} {k : κ} (e : p.1 = k) : getB (p :: r) k = some p.2 := by simp [getB, List.find?_cons, e]
theorem getB_neg {p : κ × β} {r : List (κ × β)} {k : κ} (e : ¬ p.1 = k) : getB (p :: r) k = getB r k := by simp [getB, List.find?_cons, e]
theorem getB_any (k : κ) : ∀ kvs : List (κ × β), (kvs.any fun kv => decide (kv.1 = k)) = (getB kvs k).isSome
  | [] => rfl
  | p :: r => by
    rw [List.any_cons]
    by_cases e : p.1 = k
    · simp only [getB_pos e, decide_eq_true e, Bool.true_or, Option.isSome_some]
    · rw [getB_neg e, decide_eq_false e, Bool.false_or]; exact getB_any k r
theorem getB_map (k j : κ) (y : β) : ∀ kvs : List (κ × β), getB (kvs.map fun kv => if kv.1 = k then (kv.1, y) else kv) j = (getB kvs j).map fun x => if j = k then y else x
  | [] => rfl
  | p :: r => by
    have ih := getB_map k j y r
    rw [List.map_cons]
    by_cases e : p.1 = j
    · rw [getB_pos e, Option.map_some]
      by_cases c : p.1 = k
      · rw [if_pos c, getB_pos (p := (p.1, y)) e, if_pos (e.symm.trans c)]
      · rw [if_neg c, getB_pos e, if_neg (fun z => c (e.trans z))]
    · rw [getB_neg e, ← ih]
      by_cases c : p.1 = k
      · rw [if_pos c, getB_neg (p := (p.1, y)) e]
      · rw [if_neg c, getB_neg e]
theorem getB_snoc (k j : κ) (y : β) : ∀ kvs : List (κ × β), getB kvs k = none → getB (kvs ++ [(k, y)]) j = if j = k then some y else getB kvs j
  | [], _ => by
    by_cases e : k = j
    · rw [if_pos e.symm]; exact getB_pos (p := (k, y)) e
    · rw [if_neg (fun z => e z.symm)]; exact getB_neg (p := (k, y)) e
  | p :: r, h => by
    have hk : ¬ p.1 = k := fun z => by rw [getB_pos z] at h; cases h
    rw [getB_neg hk] at h
    have ih := getB_snoc k j y r h
    show getB (p :: (r ++ [(k, y)])) j = _
    by_cases e : p.1 = j
    · rw [getB_pos e, getB_pos e, if_neg (fun z => hk (e.trans z))]
    · rw [getB_neg e, getB_neg e, ih]
theorem getB_put (kvs : List (κ × β)) (k j : κ) (y : β) : getB (putB kvs k y) j = if j = k then some y else getB kvs j := by
  unfold putB
  by_cases a : (kvs.any fun kv => decide (kv.1 = k)) = true
  · rw [if_pos a, getB_map]
    rw [getB_any] at a
    by_cases e : j = k
    · obtain ⟨x, hx⟩ := Option.isSome_iff_exists.mp a
      rw [if_pos e, e, hx, Option.map_some, if_pos rfl]
    · rw [if_neg e]
      cases getB kvs j with
      | none => rfl
      | some x => rw [Option.map_some, if_neg e]
  · rw [if_neg a]
    refine getB_snoc k j y kvs ?_
    rw [getB_any] at a
    cases q : getB kvs k with
    | none => rfl
    | some x => rw [q] at a; exact (a rfl).elim
theorem putB_new {kvs : List (κ × β)} {k : κ} (v : β) (h : getB kvs k = none) : putB kvs k v = kvs ++ [(k, v)] := by
  unfold putB
  rw [getB_any, h]
  exact if_neg (by simp)
end
/-! ### what the tables bear -/
section
variable {K : PySem.W.Frag} {ρ : Rho} {H : Hp}
theorem RepK.length {ds : List (L2.Key × D)} {vs : List (L2.Key × V)} (r : RepK K ρ H ds vs) : ds.length = vs.length := by
  induction r with
  | nil => rfl
  | cons _ _ ih => simp [ih]
theorem RepT.length {ds : List (List Int × D)} {xs : List (List Int × Addr × Value)} (r : RepT K ρ H ds xs) : ds.length = xs.length := by
  induction r with
  | nil => rfl
  | cons _ _ _ _ ih => simp [ih]
theorem RepK.any {ds : List (L2.Key × D)} {vs : List (L2.Key × V)} (r : RepK K ρ H ds vs) (k : L2.Key) : (ds.any fun kv => decide (kv.1 = k)) = vs.any fun kv => decide (kv.1 = k) := by
  induction r with
  | nil => rfl
  | cons _ _ ih => rw [List.any_cons, List.any_cons, ih]
theorem RepK.get {ds : List (L2.Key × D)} {vs : List (L2.Key × V)} (r : RepK K ρ H ds vs) {k : L2.Key} {d : D} (h : getB ds k = some d) : ∃ v, valV vs k = some v ∧ RepV K ρ H d v := by
  induction r with
  | nil => cases h
  | @cons j e v es us h1 t ih =>
    by_cases c : j = k
    · rw [getB_pos (p := (j, e)) c] at h
      cases h
      exact ⟨v, valV_pos (p := (j, v)) c, h1⟩
    · rw [getB_neg (p := (j, e)) c] at h
      obtain ⟨w, h2, h3⟩ := ih h
      exact ⟨w, by rw [valV_neg (p := (j, v)) c]; exact h2, h3⟩
theorem RepK.isSome {ds : List (L2.Key × D)} {vs : List (L2.Key × V)} (r : RepK K ρ H ds vs) (k : L2.Key) : (getB ds k).isSome = (valV vs k).isSome := by
  rw [← getB_any, ← valV_any, r.any]
theorem RepK.put {ds : List (L2.Key × D)} {vs : List (L2.Key × V)} (r : RepK K ρ H ds vs) (k : L2.Key) {d : D} {v : V} (hv : RepV K ρ H d v) : RepK K ρ H (putB ds k d) (putK vs k v) := by
  unfold putB putK
  rw [r.any k]
  by_cases e : (vs.any fun kv => decide (kv.1 = k)) = true
  · rw [if_pos e, if_pos e]
    clear e
    induction r with
    | nil => exact .nil
    | @cons j e u es us h1 t ih =>
      rw [List.map_cons, List.map_cons]
      by_cases c : j = k
      · rw [if_pos c, if_pos c]; exact .cons hv ih
      · rw [if_neg c, if_neg c]; exact .cons h1 ih
  · rw [if_neg e, if_neg e]
    clear e
    induction r with
    | nil => exact .cons hv .nil
    | cons h1 t ih => exact .cons h1 ih
theorem RepT.get {ds : List (List Int × D)} {xs : List (List Int × Addr × Value)} (r : RepT K ρ H ds xs) {k : List Int} {d : D} (h : getB ds k = some d) : ∃ p v, atKey xs k = some p ∧ RelV v p.2 ∧ RepV K ρ H d v := by
  induction r with
  | nil => cases h
  | @cons j a e v u es us h0 h1 h2 t ih =>
    by_cases c : j = k
    · rw [getB_pos (p := (j, e)) c] at h
      cases h
      exact ⟨(a, u), v, by simp [atKey, List.find?_cons, c], h2, h1⟩
    · rw [getB_neg (p := (j, e)) c] at h
      obtain ⟨p, w, q1, q2, q3⟩ := ih h
      exact ⟨p, w, by rw [← q1]; simp [atKey, List.find?_cons, c], q2, q3⟩
theorem RepT.isSome {ds : List (List Int × D)} {xs : List (List Int × Addr × Value)} (r : RepT K ρ H ds xs) (k : List Int) : (getB ds k).isSome = (atKey xs k).isSome := by
  induction r with
  | nil => rfl
  | @cons j a e v u es us h0 h1 h2 t ih =>
    by_cases c : j = k
    · rw [getB_pos (p := (j, e)) c]; simp [atKey, List.find?_cons, c]
    · rw [getB_neg (p := (j, e)) c, ih]; simp [atKey, List.find?_cons, c]
theorem RepT.put {ds : List (List Int × D)} {xs : List (List Int × Addr × Value)} (r : RepT K ρ H ds xs) (k : List Int) {d : D} {v : V} {b : Addr} {u : Value} (hb : SqT K H b (k.map V.int)) (hv : RepV K ρ H d v) (hu : RelV v u) : RepT K ρ H (putB ds k d) (storedH xs k b u) := by
  unfold putB storedH
  rw [getB_any, r.isSome k]
  by_cases e : (atKey xs k).isSome = true
  · rw [if_pos e, if_pos e]
    clear e
    induction r with
    | nil => exact .nil
    | @cons j a e w u' es us h0 h1 h2 t ih =>
      rw [List.map_cons, List.map_cons]
      unfold putAt
      by_cases c : j = k
      · rw [if_pos c, if_pos c]; exact .cons h0 hv hu ih
      · rw [if_neg c, if_neg c]; exact .cons h0 h1 h2 ih
  · rw [if_neg e, if_neg e]
    clear e
    induction r with
    | nil => exact .cons hb hv hu .nil
    | cons h0 h1 h2 t ih => exact .cons h0 h1 h2 ih
theorem RepT.keys {ds : List (List Int × D)} {xs : List (List Int × Addr × Value)} (r : RepT K ρ H ds xs) : ∀ x ∈ xs, SqT K H x.2.1 (x.1.map V.int) := by
  induction r with
  | nil => intro x h; cases h
  | cons h0 h1 h2 t ih =>
    intro x h
    rcases List.mem_cons.mp h with rfl | h
    · exact h0
    · exact ih x h
end
/-! ### keys of ints, as the library's -/
theorem inl_inj {a b : List Int} (h : a.map (Sum.inl : Int → L2.Key) = b.map .inl) : a = b := by
  induction a generalizing b with
  | nil => cases b with
    | nil => rfl
    | cons _ _ => cases h
  | cons x a ih => cases b with
    | nil => cases h
    | cons y b =>
      rw [List.map_cons, List.map_cons] at h
      injection h with h1 h2
      injection h1 with h1
      rw [h1, ih h2]
theorem at_lft (k : List Int) : ∀ xs : List (List Int × Addr × Value), atKey (xs.map lft) (k.map .inl) = atKey xs k
  | [] => rfl
  | x :: xs => by
    have ih := at_lft k xs
    unfold atKey at ih ⊢
    rw [List.map_cons, List.find?_cons, List.find?_cons]
    by_cases c : x.1 = k
    · have c' : (lft x).1 = k.map .inl := by show x.1.map _ = _; rw [c]
      rw [decide_eq_true c, decide_eq_true c']
      rfl
    · have c' : ¬ (lft x).1 = k.map .inl := fun z => c (inl_inj z)
      rw [decide_eq_false c, decide_eq_false c']
      exact ih
theorem stored_lft (xs : List (List Int × Addr × Value)) (k : List Int) (b : Addr) (u : Value) : storedH (xs.map lft) (k.map .inl) b u = (storedH xs k b u).map lft := by
  unfold storedH
  rw [at_lft]
  by_cases e : (atKey xs k).isSome = true
  · rw [if_pos e, if_pos e, List.map_map, List.map_map]
    refine List.map_congr_left fun x _ => ?_
    show putAt _ u (lft x) = lft (putAt k u x)
    unfold putAt
    by_cases c : x.1 = k
    · have c' : (lft x).1 = k.map .inl := by show x.1.map _ = _; rw [c]
      rw [if_pos c, if_pos c']; rfl
    · have c' : ¬ (lft x).1 = k.map .inl := fun z => c (inl_inj z)
      rw [if_neg c, if_neg c']
  · rw [if_neg e, if_neg e, List.map_append]; rfl
theorem entry_any {P P' : Program} {w w' : World} (x : List Int × Addr × Value) : entryOfKey (tupleKind (mixKind P w)) (lft x) = entryOfKey (tupleKind (mixKind P' w')) (lft x) := by
  have : ((lft x).1.map (mixKind P w).hash) = ((lft x).1.map (mixKind P' w').hash) := by
    show (x.1.map (Sum.inl : Int → L2.Key)).map _ = (x.1.map (Sum.inl : Int → L2.Key)).map _
    rw [List.map_map, List.map_map]
    rfl
  show (⟨tupleKeyHash (mixKind P w) (lft x).1, _, _⟩ : DictEntry) = ⟨tupleKeyHash (mixKind P' w') (lft x).1, _, _⟩
  unfold tupleKeyHash
  rw [this]
section
variable {X : Cx} {pins : List (Addr × Obj)} {σ : L2.St} {H : Hp} {s : Shared} {a b : Addr} {A : Around} {E : Value → Shared → Prop}
theorem tkey {k : List Int} (I : Inv X pins σ H s) (h : SqT X.K H b (k.map V.int)) : (tupleKind (mixKind X.prog X.w)).is s.heap (k.map .inl) b := by
  obtain ⟨its, r, ⟨o, h1, h2, n, h3⟩, _⟩ := I.tuple h
  refine ⟨o, its.toArray, n, h1, h2, h3, ?_⟩
  have r' : Vals ((k.map (Sum.inl : Int → L2.Key)).map kV) its := by
    rw [List.map_map]
    exact r
  simpa using items_are r'
theorem dit_at {ob : Obj} {xs : List (List Int × Addr × Value)} (I : Inv X pins σ H s) (e : H a = some (.ext (isO a ob))) (t : TabT a ob xs) (hs : ∀ x ∈ xs, SqT X.K H x.2.1 (x.1.map V.int)) : s.heap.DictOfH (tupleKind (mixKind X.prog X.w)) a (xs.map lft) := by
  obtain ⟨h0, _, _⟩ := (show ObjOk X.prog X.w H s.heap a (.ext (isO a ob)) from I.hok a _ e)
  obtain ⟨_, _, hx, hn, es, h1, h2⟩ := t
  refine ⟨ob, es, _, h0, hx, h1, h2 _ _, fun x hx => ?_, ?_⟩
  · obtain ⟨y, hy, rfl⟩ := List.mem_map.mp hx
    exact tkey I (hs y hy)
  · rw [List.map_map]
    have : (xs.map fun x => (lft x).1) = (xs.map (·.1)).map fun k => k.map (Sum.inl : Int → L2.Key) := by rw [List.map_map]; rfl
    show (xs.map fun x => (lft x).1).Nodup
    rw [this]
    exact List.Pairwise.map _ (fun x y h e => h (inl_inj e)) hn
/-- what a write leaves behind: the entries, and how often a key came anew -/
theorem dset_ep {prog : Program} {w : World} {A : Around} {E : Value → Shared → Prop} {s : Shared} {K : Type} [DecidableEq K] {knd : HeapKind prog w K} {d a : Addr} {o : Obj} {es : Array DictEntry} {xs : List (K × Addr × Value)} {k : K} {v : Value} {Q : Unit → Shared → Prop}
    (hu : knd.room A) (hkey : knd.is s.heap k a) (ho : s.heap.get? d = some o) (hc : o.ExactDict) (hd : o.data = .dict es xs.length) (he : es.toList = xs.map (entryOfKey knd)) (his : ∀ x ∈ xs, knd.is s.heap x.1 x.2.1) (hn : (xs.map (·.1)).Nodup) (hsz : xs.length ≤ sizeLine)
    (hQ : ∀ h' o' es', h'.get? d = some o' → o'.ExactDict → o'.data = .dict es' (storedH xs k a v).length → es'.toList = (storedH xs k a v).map (entryOfKey knd) → ((storedH xs k a v).map (·.1)).Nodup → Heap.SameBut d s.heap h' → Q () { s with heap := h', toks := s.toks + knd.draws k }) :
    wpAny (model prog w) A (dictSet d (.ref a) v) Q E s := by
  have ez := size_of_entries he
  unfold dictSet; (try with_reducible refine wpAny_holding ?_); refine wpAny_bind (knd.pyHash hu hkey ?_)
  unfold dictSetHashed; (try with_reducible refine wpAny_holding ?_)
  refine wpAny_bind (wpAny_dictFind_heap (s := { s with toks := s.toks + knd.draws k }) hu hkey ho hd he his hn (fun hno => ?_) fun j p hj => ?_)
  · have e1 : storedH xs k a v = xs ++ [(k, a, v)] := storedH_new (atKey_none_of_get hno) a v
    rw [e1] at hQ
    refine wpAny_bind (wpAny_rule (wpAny_updateDictKeys (hz := by omega) (s := { s with toks := s.toks + knd.draws k }) ho hd (hQ _ _ (es.push ⟨knd.hash k, .ref a, v⟩) (Heap.get?_update_self _ ho (Obj.isFreed_of_dict (Obj.data_mapDictKeys hd _))) (hc.mapDictKeys _) ?_ ?_ ?_ (Heap.SameBut.update ..))))
    · rw [List.length_append]; exact Obj.data_mapDictKeys hd _
    · simp [he, entryOfKey]
    · rw [List.map_append]
      refine List.nodup_append.mpr ⟨hn, by simp, fun x hx y hy e => ?_⟩
      have ey : y = k := by simpa using hy
      subst ey; subst e
      exact not_mem_keys_of_get hno hx
  · have e1 : storedH xs k a v = xs.map (putAt k v) := storedH_old (atKey_of_get hn hj) a v
    rw [e1] at hQ
    refine wpAny_bind (wpAny_rule (wpAny_bind (wpAny_updateDict (s := { s with toks := s.toks + knd.draws k }) ho hd (wpAny_point (hQ _ _ (es.modify j fun e => { e with val := v }) (Heap.get?_update_self _ ho (Obj.isFreed_of_dict (Obj.data_mapDict hd _))) (hc.mapDict _) ?_ ?_ ?_ (Heap.SameBut.update ..))))))
    · rw [List.length_map]; exact Obj.data_mapDict hd _
    · have q := modify_map_putAt (entryOfKey knd) (fun e : DictEntry => { e with val := v }) k v (fun _ _ => rfl) hn hj
      rw [← he] at q; obtain ⟨l⟩ := es
      simpa using q
    · rw [keys_map_putAt]
      exact hn
theorem stored_nodup {xs : List (List Int × Addr × Value)} {k : List Int} {b : Addr} {r : Value} (h : ((storedH (xs.map lft) (k.map .inl) b r).map (·.1)).Nodup) : ((storedH xs k b r).map (·.1)).Nodup := by
  rw [stored_lft, List.map_map] at h
  have : ((storedH xs k b r).map fun x => (lft x).1) = ((storedH xs k b r).map (·.1)).map fun k => k.map (Sum.inl : Int → L2.Key) := by rw [List.map_map]; rfl
  have h : ((storedH xs k b r).map fun x => (lft x).1).Nodup := h
  rw [this] at h
  exact List.Pairwise.of_map _ (fun x y h e => h (by rw [e])) h
/-- by a display or a comprehension -/
theorem put_dset {ob : Obj} {xs : List (List Int × Addr × Value)} {k : List Int} {r : Value} {Q : Unit → Shared → Prop} (hu : (tupleKind (mixKind X.prog X.w)).room A) (I : Inv X pins σ H s) (e : H a = some (.ext (isO a ob))) (t : TabT a ob xs)
    (hs : ∀ x ∈ xs, SqT X.K H x.2.1 (x.1.map V.int)) (hb : SqT X.K H b (k.map V.int)) (hl : xs.length < sizeLine)
    (h : ∀ ob' s', TabT a ob' (storedH xs k b r) → Inv X pins σ (upd H a (.ext (isO a ob'))) s' → Q () s') : wpAny (model X.prog X.w) A (dictSet a (.ref b) r) Q E s := by
  have dd := dit_at I e t hs
  obtain ⟨ob2, es2, ep2, g1, g2, g3, g4, g5, g6⟩ := dd
  obtain ⟨h0, _, _⟩ := (show ObjOk X.prog X.w H s.heap a (.ext (isO a ob)) from I.hok a _ e)
  obtain ⟨hd, hz, hx, hn, es, h1, h2⟩ := t
  have h0 : s.heap.get? a = some ob := h0
  rw [h0] at g1; cases g1
  refine dset_ep hu (tkey I hb) h0 hx (by rw [List.length_map]; exact h1) (h2 _ _) g5 g6 (by rw [List.length_map]; omega) fun h' o' es' q1 q2 q3 q4 q5 sb => ?_
  have q5 := stored_nodup q5
  rw [stored_lft] at q3 q4
  rw [List.length_map] at q3
  refine h o' _ ⟨hd, ?_, q2, q5, es', q3, fun P w => ?_⟩ (d_write I (by rw [e]; exact True.intro) sb ⟨o', q1⟩ ⟨q1, ⟨o', q1⟩, fun h1 h2 f1 f2 => f2 _ f1⟩)
  · unfold storedH
    split
    · rw [List.length_map]; omega
    · rw [List.length_append, List.length_cons, List.length_nil]; omega
  · rw [q4, List.map_map, List.map_map]
    exact List.map_congr_left fun x _ => entry_any x
/-- d[k] = v -/
theorem put_dit {ob : Obj} {xs : List (List Int × Addr × Value)} {k : List Int} {r : Value} {Q : Unit → Shared → Prop} (hu : A.units + 1 < cLine) (I : Inv X pins σ H s) (e : H a = some (.ext (isO a ob))) (t : TabT a ob xs)
    (hs : ∀ x ∈ xs, SqT X.K H x.2.1 (x.1.map V.int)) (hb : SqT X.K H b (k.map V.int)) (hl : xs.length < sizeLine)
    (h : ∀ ob' s', TabT a ob' (storedH xs k b r) → Inv X pins σ (upd H a (.ext (isO a ob'))) s' → Q () s') : wpAny (model X.prog X.w) A (setItem (.ref a) (.ref b) r) Q E s := by
  have ty := (dit_at I e t hs).typeIs
  unfold setItem; (try with_reducible refine wpAny_holding ?_)
  refine wpAny_bind (wpAny_sequenceKey ty (by decide) (wpAny_bind (wpAny_callSpecial?_slot (name := Str.ofString "__setitem__") ty slot_dict_setitem (wpAny_call_entry slot_dict_setitem ty entry_dict_setitem ?_ (args_dict_setitem _ _ _)))))
  show wpAny _ _ (Builtin.Dict.notOrdered "__setitem__" ⟨[.ref a, .ref b, r], []⟩ >>= _) _ _ s; refine wpAny_bind (wpAny_notOrdered_dict ty ?_)
  show wpAny _ _ (dictSet a (.ref b) r >>= _) _ _ s
  exact wpAny_bind (put_dset (tupleKind_room_in1 hu) I e t hs hb hl fun ob' s' t' I' => wpAny_pure ⟨.none, rfl, wpAny_pure (h ob' s' t' I')⟩)
end
/-! ### the meanings -/
def keyK : D → Option L2.Key
  | .int i => some (.inl i)
  | .str x => some (.inr x)
  | _ => none
def keyI : D → Option (List Int)
  | .tup ds => its' ds
  | _ => none
theorem keyK_ok {K : PySem.W.Frag} {ρ : Rho} {H : Hp} {e : D} {y : V} {k : L2.Key} (h : keyK e = some k) (r : RepV K ρ H e y) : y = kV k := by
  cases e with
  | int i => cases r; cases h; rfl
  | str x => cases r; cases h; rfl
  | _ => cases h
theorem its_is : ∀ {ds : List D} {ks : List Int}, its' ds = some ks → ds = ks.map .int
  | [], ks, h => by cases h; rfl
  | d :: ds, ks, h => by
    unfold its' at h
    split at h
    · rename_i q
      cases h
      rw [List.map_cons, ← its_is q]
    · cases h
theorem keyI_ok {K : PySem.W.Frag} {ρ : Rho} {H : Hp} {e : D} {y : V} {k : List Int} (h : keyI e = some k) (r : RepV K ρ H e y) : ∃ b, y = .ref b ∧ SqT K H b (k.map V.int) := by
  cases e with
  | tup ds =>
    have e := its_is h
    subst e
    cases r with
    | @tup a vs _ h1 h2 =>
      have : vs = k.map V.int := by
        clear h1 h
        induction k generalizing vs with
        | nil => cases h2; rfl
        | cons i k ih =>
          cases h2 with
          | cons h3 h4 =>
            cases h3
            rw [List.map_cons, ih h4]
      subst this
      exact ⟨a, rfl, h1⟩
  | _ => cases h
/-- what a dict holds at a key -/
def dictAt (h : IH) (d e : D) : Option (Option D) := match d with
  | .ref n => match h[n]? with
    | some (.dik kvs) => (keyK e).map fun k => getB kvs k
    | some (.dit kvs) => (keyI e).map fun k => getB kvs k
    | _ => none
  | _ => none
/-- the same, below -/
def DAt (X : Cx) (H : Hp) (a : Addr) (y : V) (o : Option V) : Prop :=
  (∃ kvs k, H a = some (.dK kvs) ∧ y = kV k ∧ o = valV kvs k) ∨
    ∃ ob xs k b, H a = some (.ext (isO a ob)) ∧ TabT a ob xs ∧ (∀ x ∈ xs, SqT X.K H x.2.1 (x.1.map V.int)) ∧ y = .ref b ∧ SqT X.K H b (k.map V.int) ∧ RelO o ((atKey xs k).map (·.2))
section
variable {X : Cx} {xp : Option XP}
theorem dictAt_ok {ρ : Rho} {ih : IH} {H : Hp} {d e : D} {x y : V} {o : Option D} (rl : RelH X.K ρ ih H) (h : dictAt ih d e = some o) (rd : RepV X.K ρ H d x) (re : RepV X.K ρ H e y) :
    ∃ a ov, x = .ref a ∧ DAt X H a y ov ∧ ov.isSome = o.isSome ∧ ∀ u, o = some u → ∃ v, ov = some v ∧ RepV X.K ρ H u v := by
  unfold dictAt at h
  split at h
  · rename_i n
    cases rd with
    | @ref _ a h1 =>
      split at h
      · rename_i kvs hn
        obtain ⟨k, h2, rfl⟩ := Option.map_eq_some_iff.mp h
        obtain ⟨m, h3, h4⟩ := rl.obj n a _ h1 hn
        refine ⟨a, valV m k, rfl, .inl ⟨m, k, h3, keyK_ok h2 re, rfl⟩, (h4.isSome k).symm, fun u hu => ?_⟩
        obtain ⟨v, h5, h6⟩ := h4.get hu
        exact ⟨v, h5, h6⟩
      · rename_i kvs hn
        obtain ⟨k, h2, rfl⟩ := Option.map_eq_some_iff.mp h
        obtain ⟨ob, xs, h3, h4, h5⟩ := rl.obj n a _ h1 hn
        obtain ⟨b, rfl, h6⟩ := keyI_ok h2 re
        cases q : getB kvs k with
        | none =>
          have z := h5.isSome k
          rw [q] at z
          refine ⟨a, none, rfl, .inr ⟨ob, xs, k, b, h3, h4, h5.keys, rfl, h6, ?_⟩, rfl, fun u hu => by cases hu⟩
          cases z2 : atKey xs k with
          | none => exact True.intro
          | some p => rw [z2] at z; cases z
        | some u =>
          obtain ⟨p, v, q1, q2, q3⟩ := h5.get q
          refine ⟨a, some v, rfl, .inr ⟨ob, xs, k, b, h3, h4, h5.keys, rfl, h6, by rw [q1]; exact q2⟩, rfl, fun u hu => ?_⟩
          cases hu
          exact ⟨v, rfl, q3⟩
      · cases h
  · cases h
theorem DAt.type {pins : List (Addr × Obj)} {σ : L2.St} {H : Hp} {s : Shared} {a : Addr} {y : V} {o : Option V} (I : Inv X pins σ H s) (g : DAt X H a y o) : s.TypeIs (.ref a) "dict" := by
  rcases g with ⟨kvs, k, e, _, _⟩ | ⟨ob, xs, k, b, e, t, hs, _⟩
  · obtain ⟨_, _, vs, _, dd⟩ := dk_of I.hok e
    exact dd.typeIs
  · exact (dit_at I e t hs).typeIs
/-- d[k] -/
def rIxDi (X : Cx) : R2 := fun x y H Q => ∃ a v, x = .ref a ∧ DAt X H a y (some v) ∧ Q v H
theorem ix_di (hu : X.A.units + 1 < cLine) : IxR X (rIxDi X) := by
  intro value slice pins s σ H x y v u Q I rx ry h hs
  obtain ⟨a, z, rfl, g, q⟩ := h
  cases rx
  have ty := g.type I
  rcases g with ⟨kvs, k, e, ey, l⟩ | ⟨ob, xs, k, b, e, t, hk, ey, eb, l⟩
  · subst ey
    obtain ⟨_, hd, vs, rel, dd⟩ := dk_of I.hok e
    obtain ⟨w', hw, rw'⟩ := RelO.some_of (v := z) (o := valueAt vs k) (by rw [l]; exact rel.val k)
    exact subscriptTail_builtinR (x := w') ty PySem.F.slot_dict_getitem.lookup (wpAny_getItem_of (Q := fun r s' => r = w' ∧ EP X pins σ Q r s') (kV_is ry) dd.mapOf hw ⟨rfl, z, H, I.tok _, rw', q⟩) hs
  · subst ey
    cases (show u = Value.ref b from ry)
    obtain ⟨w', hw, rw'⟩ := RelO.some_of (v := z) l
    obtain ⟨p, hp, hp2⟩ := Option.map_eq_some_iff.mp hw
    refine subscriptTail_builtinR (x := w') ty PySem.F.slot_dict_getitem.lookup (wpAny_getItem_heap (Q := fun r s' => r = w' ∧ EP X pins σ Q r s') (tupleKind_room_in1 hu) (tkey I eb) (dit_at I e t hk) (by rw [at_lft]; exact hp) ?_) hs
    rw [hp2]
    exact ⟨rfl, z, H, I.tok _, rw', q⟩
def dgetM : MO := fun d e h => match dictAt h d e with
  | some (some x) => .ok x h
  | _ => .stuck
theorem s_dget {a b : Expr} {ma mb : ME} {pos : Pos} (hu : X.A.units + 1 < cLine) (A : SE xp X a ma) (B : SE xp X b mb) (hs : PlainIx b := by exact fun _ _ => rfl) : SE xp X (.Subscript a b pos) (binM dgetM ma mb) := fun W tk => by
  obtain ⟨ta, pa, ha⟩ := A W tk
  obtain ⟨tb, pb, hb⟩ := B W tk
  refine ⟨_, pe_ix (ix_di hu) pa pb hs, fun ρ env ih σ H Q rl post => ?_⟩
  refine bin2 (ta := ta) (tb := tb) ha hb rl post fun ρ1 h1 H1 d e x y x1 r1 rd re post => ?_
  unfold dgetM at post
  split at post
  · rename_i u q
    obtain ⟨a, ov, rfl, g, _, h⟩ := dictAt_ok r1 q rd re
    obtain ⟨v, rfl, rv⟩ := h u rfl
    exact ⟨a, v, rfl, g, post ρ1 _ H1 .refl r1 rv⟩
  · exact post.elim
/-- k in d -/
def dinM (neg : Bool) : MO := fun e d h => match dictAt h d e with
  | some o => .ok (.bl (xor neg o.isSome)) h
  | none => .stuck
theorem op_dnin (hu : X.A.units + 1 < cLine) : OpR X (compareOp .NotIn) (fun y x H Q => ∃ a o, x = .ref a ∧ DAt X H a y o ∧ Q (.bl (!o.isSome)) H) := by
  intro pins s σ H y x u v Q I ry rx h
  obtain ⟨a, o, rfl, g, q⟩ := h
  cases rx
  rcases g with ⟨kvs, k, e, ey, l⟩ | ⟨ob, xs, k, b, e, t, hk, ey, eb, l⟩
  · subst ey
    obtain ⟨_, hd, vs, rel, dd⟩ := dk_of I.hok e
    refine wpAny_notIn_of (kV_is ry) hd dd.mapOf ?_
    rw [← (rel.val k).isSome_eq, ← l]
    exact ⟨.bl (!o.isSome), H, I.tok _, rfl, q⟩
  · subst ey
    cases (show u = Value.ref b from ry)
    refine wpAny_notIn_heap (tupleKind_room_in1 hu) (tkey I eb) t.1 (dit_at I e t hk) ?_
    rw [at_lft]
    have z := l.isSome_eq
    rw [Option.isSome_map] at z
    rw [← z]
    exact ⟨.bl (!o.isSome), H, I.tok _, rfl, q⟩
theorem o_dnin (hu : X.A.units + 65 < cLine) : SO X (compareOp .NotIn) (dinM true) := ⟨_, op_dnin (by omega), fun W ρ ih H σ Q d e x y rl hd he post => by
  unfold dinM at post
  split at post
  · rename_i o q
    obtain ⟨a, ov, rfl, g, h, _⟩ := dictAt_ok rl q he hd
    refine ⟨a, ov, rfl, g, ?_⟩
    rw [h]
    have := post ρ _ H .refl rl (.bl _)
    simpa using this
  · exact post.elim⟩
end
end Z
/-! Z20: dicts made and written; index, pop; list(range()). -/
namespace Z
open PySem PySem.Spec PyProof.Rows L2
theorem hu1 {u : Nat} (h : u + 64 < cLine) : u + 1 < cLine := by omega
section
variable {K : PySem.W.Frag} {ρ : Rho} {H : Hp} {ih : IH}
/-- what may change -/
def Soft (u : HO) : Prop := (∀ xs, u ≠ .tup xs) ∧ (∀ o v, u ≠ .frz o v) ∧ ∀ fs, u ≠ .xd fs
theorem rewriteG (r : RelH K ρ ih H) {n : Nat} {a : Addr} {old u : HO} {o : IO} (ha : ρ.as[n]? = some a) (hl : H a = some old) (so : Soft old) (h : Ext ρ H ρ (upd H a u) → RepO K ρ (upd H a u) a o) :
    Ext ρ H ρ (upd H a u) ∧ RelH K ρ (ih.set n o) (upd H a u) := by
  have hm : a ∈ ρ.as := List.mem_of_getElem? ha
  obtain ⟨s1, s2, s3⟩ := so
  have x : Ext ρ H ρ (upd H a u) :=
    ⟨List.prefix_refl _, fun _ z => .inl z, fun b v e hb => by rw [upd_ne (by rintro rfl; exact hb hm)]; exact e, fun b v e => by rw [upd_ne (by rintro rfl; rw [hl] at e; injection e with e; exact s1 _ e)]; exact e,
      fun b v w e => by rw [upd_ne (by rintro rfl; rw [hl] at e; injection e with e; exact s2 _ _ e)]; exact e, fun b v e => by rw [upd_ne (by rintro rfl; rw [hl] at e; injection e with e; exact s3 _ e)]; exact e⟩
  refine ⟨x, by rw [r.len, List.length_set], r.nd, fun m b v e1 e2 => ?_⟩
  by_cases hmn : n = m
  · subst hmn
    rw [ha] at e1; cases e1
    have hn : n < ih.length := by rw [← r.len]; exact (List.getElem?_eq_some_iff.mp ha).1
    rw [List.getElem?_set_self hn] at e2
    cases e2
    exact h x
  · rw [List.getElem?_set_ne hmn] at e2
    have ne : b ≠ a := by
      rintro rfl
      obtain ⟨h1, q1⟩ := List.getElem?_eq_some_iff.mp e1
      obtain ⟨h2, q2⟩ := List.getElem?_eq_some_iff.mp ha
      exact hmn ((List.getElem_inj r.nd).mp (q2.trans q1.symm))
    exact (r.obj m b v e1 e2).ext x (upd_ne ne)
theorem allocG (r : RelH K ρ ih H) {p : Addr} {u : HO} {o : IO} (hp : H p = none) (h : Ext ρ H ⟨ρ.as ++ [p]⟩ (upd H p u) → RepO K ⟨ρ.as ++ [p]⟩ (upd H p u) p o) :
    ∃ ρ', Ext ρ H ρ' (upd H p u) ∧ RelH K ρ' (ih ++ [o]) (upd H p u) ∧ RepV K ρ' (upd H p u) (.ref ih.length) (.ref p) := by
  have x : Ext ρ H ⟨ρ.as ++ [p]⟩ (upd H p u) :=
    ⟨List.prefix_append _ _, fun a z => by
      rcases List.mem_append.mp z with z | z
      · exact .inl z
      · rw [List.mem_singleton.mp z]; exact .inr hp, fun a v e _ => by rw [upd_ne (ne_of_none e hp)]; exact e, fun a v e => by rw [upd_ne (ne_of_none e hp)]; exact e,
    fun a v w e => by rw [upd_ne (ne_of_none e hp)]; exact e, fun a v e => by rw [upd_ne (ne_of_none e hp)]; exact e⟩
  have np : p ∉ ρ.as := fun z => by
    obtain ⟨o, e⟩ := r.ne_none z
    rw [hp] at e; cases e
  refine ⟨⟨ρ.as ++ [p]⟩, x, ⟨by simp [r.len], List.nodup_append.mpr ⟨r.nd, by simp, fun a ha b hb => by
    rw [List.mem_singleton.mp hb]; rintro rfl; exact np ha⟩, fun n a v e1 e2 => ?_⟩, .ref ?_⟩
  · by_cases hn : n < ih.length
    · have hn' : n < ρ.as.length := by rw [r.len]; exact hn
      rw [List.getElem?_append_left hn'] at e1
      rw [List.getElem?_append_left hn] at e2
      have ne : a ≠ p := by rintro rfl; exact np (List.mem_of_getElem? e1)
      exact (r.obj n a v e1 e2).ext x (upd_ne ne)
    · have hl : n < (ih ++ [o]).length := (List.getElem?_eq_some_iff.mp e2).1
      have en : n = ih.length := by simp at hl; omega
      subst en
      have q1 : (ρ.as ++ [p])[ih.length]? = some p := by rw [← r.len]; simp
      have e1' : (ρ.as ++ [p])[ih.length]? = some a := e1
      rw [q1] at e1'; cases e1'
      have q2 : (ih ++ [o])[ih.length]? = some o := by simp
      rw [q2] at e2; cases e2
      exact h x
  · show (ρ.as ++ [p])[ih.length]? = some p
    rw [← r.len]; simp
end
/-! ### {} -/
section
variable {X : Cx} {xp : Option XP} {pos : Pos}
def emptyD : Obj := { cls := .type "dict", data := .dict #[] }
theorem tab_empty {a : Addr} (h : (a == sysModules) = false) : TabT a emptyD [] := ⟨h, Nat.zero_le _, ⟨rfl, rfl, rfl⟩, List.nodup_nil, #[], rfl, fun _ _ => rfl⟩
def tDNewI : TE := fun _ H Q => ∀ p, H p = none → (p == sysModules) = false → Q (.ref p) (upd H p (.ext (isO p emptyD)))
theorem pe_dnewI : PE X (.Dict [] [] pos) tDNewI := ⟨fun pins s σ H Q I h => by
  have hb := I.big
  have hs : (s.heap.objs.size == sysModules) = false := beq_eq_false_iff_ne.mpr (Ne.symm (Nat.ne_of_lt hb))
  exact wpAny_Dict_empty ⟨.ref s.heap.objs.size, _, I.laid (a := s.heap.objs.size) (o := .ext (isO s.heap.objs.size emptyD)) (t' := s.toks) (fun _ _ q => Heap.get?_push_of_some _ q) (Nat.le_refl _)
    ⟨Heap.get?_push_size _ rfl, ⟨emptyD, Heap.get?_push_size _ rfl⟩, fun h1 h2 f1 f2 => f2 _ f1⟩, rfl, h _ (I.hok.fresh (Nat.le_refl _)) hs⟩⟩
/-- t: keys are tuples -/
def dnewM (t : Bool) : ME := fun _ h => .ok (.ref h.length) (h ++ [if t = true then .dit [] else .dik []])
theorem s_dnewT : SE xp X (.Dict [] [] pos) (dnewM true) := fun W tk => by
  refine ⟨_, pe_dnewI, fun ρ env ih σ H Q rl post p hp hs => ?_⟩
  obtain ⟨ρ', x, r, v⟩ := allocG rl.hp (u := .ext (isO p emptyD)) (o := .dit []) hp fun _ => ⟨emptyD, [], upd_same, tab_empty hs, .nil⟩
  exact post ρ' _ _ x r v
/-! ### d[k] = v -/
def rSetDi (X : Cx) : TSet := fun o i v H Q => (∃ a H', o = .ref a ∧ DPut H a i v H' ∧ Q H') ∨
  ∃ a ob xs k b, o = .ref a ∧ i = .ref b ∧ H a = some (.ext (isO a ob)) ∧ TabT a ob xs ∧ (∀ x ∈ xs, SqT X.K H x.2.1 (x.1.map V.int)) ∧ SqT X.K H b (k.map V.int) ∧ xs.length < sizeLine ∧
    ∀ ob' u, RelV v u → TabT a ob' (storedH xs k b u) → Q (upd H a (.ext (isO a ob')))
theorem set_di (hu : X.A.units + 1 < cLine) : PSet X (rSetDi X) := by
  intro pins s σ H o i v ov iv u Q I ro ri rv h
  rcases h with ⟨a, H', eo, g, q⟩ | ⟨a, ob, xs, k, b, rfl, rfl, e, t, hs, hb, hl, q⟩
  · subst eo
    cases (show ov = Value.ref a from ro)
    exact d_setItem hu I g ri rv fun s' I' => ⟨H', I', q⟩
  · cases (show ov = Value.ref a from ro)
    cases (show iv = Value.ref b from ri)
    exact put_dit hu I e t hs hb hl fun ob' s' t' I' => ⟨_, I', q ob' u rv t'⟩
def setDi : MP := fun o i d h => match o with
  | .ref n => match h[n]? with
    | some (.dik kvs) => match keyK i with
      | some k => if kvs.length < 16777216 then some (h.set n (.dik (putB kvs k d))) else none
      | none => none
    | some (.dit kvs) => match keyI i with
      | some k => if kvs.length < 16777216 then some (h.set n (.dit (putB kvs k d))) else none
      | none => none
    | _ => none
  | _ => none
theorem p_dict (hu : X.A.units + 1 < cLine) : SP' X setDi := ⟨_, set_di hu, fun ρ ih ih' H Q o i d x y v rl ro ri rd e q => by
  unfold setDi at e
  split at e
  · rename_i n
    cases ro with
    | @ref _ a h1 =>
      split at e
      · rename_i kvs hn
        split at e
        · rename_i k hk
          split at e
          · rename_i c
            cases e
            obtain ⟨m, h3, h4⟩ := rl.obj n a _ h1 hn
            refine .inl ⟨a, upd H a (.dK (putK m k v)), rfl, ?_, ?_⟩
            · rw [keyK_ok hk ri]
              exact DPut.k h3 (by rw [← h4.length, sizeLine_eq]; exact c)
            · obtain ⟨x, r⟩ := rewriteG rl (u := .dK (putK m k v)) (o := .dik (putB kvs k d)) h1 h3 ⟨fun _ z => (nomatch z), fun _ _ z => (nomatch z), fun _ z => (nomatch z)⟩ fun x => ⟨_, upd_same, (h4.put k rd).ext x⟩
              exact q _ x r
          · cases e
        · cases e
      · rename_i kvs hn
        split at e
        · rename_i k hk
          split at e
          · rename_i c
            cases e
            obtain ⟨ob, xs, h3, h4, h5⟩ := rl.obj n a _ h1 hn
            obtain ⟨b, rfl, h6⟩ := keyI_ok hk ri
            refine .inr ⟨a, ob, xs, k, b, rfl, rfl, h3, h4, h5.keys, h6, by rw [← h5.length, sizeLine_eq]; exact c, fun ob' u hu t' => ?_⟩
            obtain ⟨x, r⟩ := rewriteG rl (u := .ext (isO a ob')) (o := .dit (putB kvs k d)) h1 h3 ⟨fun _ z => (nomatch z), fun _ _ z => (nomatch z), fun _ z => (nomatch z)⟩ fun x => ⟨ob', _, upd_same, t', (h5.put k h6 rd hu).ext x⟩
            exact q _ x r
          · cases e
        · cases e
      · cases e
  · cases e⟩
/-! ### methods of lists -/
end
/-! ### list(range()) -/
section
variable {X : Cx} {xp : Option XP} {pos : Pos} {a b : Expr} {ma mb : ME}
end
end Z
/-! Z22: the head's run in three pieces (each by itself takes less memory). -/
namespace Z
open PySem PySem.W PySem.Calls PyProof.Rows HandSHeadRun
end Z
/-! Z23: pop() of a list; min and max. -/
namespace Z
open PySem PySem.Spec PyProof.Rows L2
section
variable {xp : Option XP} {X : Cx} {o : Expr} {mo : ME} {name : Str} {apos cpos : Pos} {id : String} {m : MMt}
/-! ### min, max -/
end
end Z
/-! Z24: a list taken apart. -/
namespace Z
open PySem PySem.Spec PyProof.Rows L2
section
variable {xp : Option XP} {X : Cx} {ma : ME} {e : Expr} {pos : Pos}
/-- a, b, .. = a list -/
def asgLM (n : Nat) (gs : MGs) (ma : ME) : MS := fun env h => (ma env h).thenS env fun d h => match lisOf h d with
  | some ds => if ds.length = n then (match gs ds env with
    | some env => .nx env h
    | none => .stuck) else .stuck
  | none => .stuck
end
end Z
/-! Z26: try with several clauses, each with a name or without. -/
namespace Z
open PySem PySem.Spec PyProof.Rows L2
/-- an exception that a try of X has in hand: it lies at a, no slot or object of H knows it -/
structure Held1 (X : Cx) (pins : List (Addr × Obj)) (σ : L2.St) (H : Hp) (cls : Value) (d : Option Addr) (a : Addr) (B : Heap) (s0 s : Shared) : Prop where
  inv : Inv X pins σ H s0
  old : ∀ b o, s0.heap.get? b = some o → b ∉ frs X.stack → B.get? b = some o
  up : s0.heap.UpToSlots s.heap
  fly : HandSPX.FlyingZ B (X.env :: X.outer) a (Zc cls d) s.heap
  new : H a = none
  out : s.os = s0.os
  gen : AllBare s.gens
section
variable {X : Cx} {pins : List (Addr × Obj)} {σ : L2.St} {H : Hp} {cls : Value} {d : Option Addr} {a : Addr} {B : Heap} {s0 s : Shared}
theorem Held1.here (w : Held1 X pins σ H cls d a B s0 s) : Inv X pins σ H s := w.inv.landed w.old w.fly.1 w.up w.out w.gen
theorem Held1.lies (w : Held1 X pins σ H cls d a B s0 s) : ∃ oe vs, s.heap.get? a = some oe ∧ Zc cls d oe ∧ oe.data = .fields vs := w.fly.there
theorem Held1.apart (w : Held1 X pins σ H cls d a B s0 s) : a ∉ frs (X.env :: X.outer) := fun hm => by
  obtain ⟨oe, vs, he, _, hd⟩ := w.lies
  obtain ⟨_, o2, e2, nf⟩ := w.fly.2.2.1.mem hm
  rw [he] at e2
  cases e2
  exact nf vs hd
theorem Held1.inner (hf : X.env.frame = some X.env.locals) (w : Held1 X pins σ H cls d a B s0 s) {oe : Obj} {vs : Array Value} (he : s.heap.get? a = some oe) (hd : oe.data = .fields vs) : Inv (X.suite a ((a, oe) :: (X.pn ++ pins))) [] σ H s := by
  have ap := w.apart
  refine w.here.suite he hd w.new (fun z => ap ?_) fun hm => ap ?_
  · rw [z]
    exact List.mem_filterMap.mpr ⟨X.env, List.mem_cons_self, hf⟩
  · obtain ⟨e1, h1, h2⟩ := List.mem_filterMap.mp hm
    exact List.mem_filterMap.mpr ⟨e1, List.mem_cons_of_mem _ h1, h2⟩
/-- the flight is cleared once more -/
theorem Held1.clear {Q : Unit → Shared → Prop} {E : Value → Shared → Prop} {A : Around} {M : Model} (w : Held1 X pins σ H cls d a B s0 s) (k : ∀ s', Held1 X pins σ H cls d a B s0 s' → Q () s') : wpAny M A (setFlight (.ref a) none) Q E s :=
  HandSPX.lands_againZ w.fly fun hp f u => k _ ⟨w.inv, w.old, w.up.trans u, f, w.new, w.out, w.gen⟩
end
section
variable {X : Cx} {x n : Str} {c : Value} {i : Nat} {suite body : List Stmt} {b₀ : Stmt} {np pos pos' : Pos} {ts : Addr → Value → Option Addr → TS} {tb : WX → TS} {Wout : WX} {hds : List ExceptHandler} {h₀ : ExceptHandler} {w : Ends → WX}
/-- the test of a clause -/
theorem asks (hf : X.env.frame = some X.env.locals) (hc : Names X x c) {pins : List (Addr × Obj)} {σ : L2.St} {H : Hp} {cls : Value} {d : Option Addr} {a : Addr} {B : Heap} {s0 s : Shared} (hh : Held1 X pins σ H cls d a B s0 s) {b : Bool} (hb : PySem.W.exmOne X.K cls c = some b) {R : Bool → Shared → Prop} {E E' : Value → Shared → Prop} (k : R b s) :
    wpAny (model X.prog X.w) (X.A.mark (some (.ref a))) (eval (.Name x np) X.env) (fun u t => wpAny (model X.prog X.w) (X.A.mark (some (.ref a))) (excMatches (.ref a) u) R E t) E' s := by
  obtain ⟨oe, vs, he, hz, hd⟩ := hh.lies
  have I2 := hh.inner hf he hd
  have look : PySem.W.Looks (model X.prog X.w) s.heap (typeOf (.ref a)) cls := fun A Q F t keep q => wpAny_typeOf_ref (keep _ _ he) (by rw [hz.1]; exact q)
  have ans := (PySem.W.exm_one (M := model X.prog X.w) hh.here.kIn look hb).here (A := X.A.mark (some (.ref a))) (E := E) k
  obtain ⟨gl, db, q | ⟨q, bt, nn⟩⟩ := hc
  · exact ld_glob (X := X.suite a ((a, oe) :: (X.pn ++ pins))) I2 gl q ans db
  · exact ld_blt (X := X.suite a ((a, oe) :: (X.pn ++ pins))) I2 gl q bt ans nn db
end
/-! ### the mirror -/
section
variable {X : Cx} {x n : Str} {c : Value} {i : Nat} {suite body : List Stmt} {b₀ : Stmt} {np pos pos' : Pos} {hds : List ExceptHandler} {h₀ : ExceptHandler} {mb : MS} {mh : Exc → MS} {sub : Str → Str → Option Bool} {hs l : List (Option Nat × Str × (Exc → MS))}
end
end Z
/-! Z27: dict comprehensions, keys ints, texts, or tuples of ints. -/
namespace Z
open PySem PySem.Spec PyProof.Rows L2
section
variable {X : Cx}
end
/-! ### a comprehension within a comprehension -/
/-! ### the mirror -/
section
variable {X : Cx} {xp : Option XP} {scope : Scope} {vs : List Nat} {pos : Pos}
end
end Z
/-! Z28: len, list, sorted of a dict whose keys are tuples of ints; d.get(k, e). -/
namespace Z
open PySem PySem.Spec PyProof.Rows L2
section
variable {X : Cx} {pins : List (Addr × Obj)} {σ : L2.St} {H : Hp} {s : Shared} {a : Addr}
/-! ### len -/
/-! ### list -/
/-! ### sorted -/
/-! ### d.get(k, e) -/
def DHere (H : Hp) (a : Addr) : Prop := (∃ kvs, H a = some (.dK kvs)) ∨ ∃ ob xs, H a = some (.ext (isO a ob)) ∧ TabT a ob xs
theorem DHere.at (I : Inv X pins σ H s) (d : DHere H a) : s.TypeIs (.ref a) "dict" ∧ ∀ b, Value.ref a = .ref b → ∃ ob, s.heap.get? b = some ob ∧ ob.dict = none := by
  rcases d with ⟨kvs, e⟩ | ⟨ob, xs, e, t⟩
  · obtain ⟨_, _, vs, _, dd⟩ := dk_of I.hok e
    exact ⟨dd.typeIs, dd.mapOf.noDict⟩
  · exact ⟨⟨ob, ext_here I e, t.2.2.1.1⟩, fun b q => by cases q; exact ⟨ob, ext_here I e, t.2.2.1.2.1⟩⟩
variable {xp : Option XP}
end
end Z
/-! Z29: dict displays; list.remove. -/
namespace Z
open PySem PySem.Spec PyProof.Rows L2
section
variable {X : Cx} {xp : Option XP} {pos : Pos}
/-! ### {k: v, ..} -/
def tKV : List (TE × TE) → L2.St → Hp → (List (V × V) → Hp → Prop) → Prop
  | [], _, H, Q => Q [] H
  | p :: r, σ, H, Q => p.1 σ H fun y H => p.2 σ H fun z H => tKV r σ H fun ps H => Q ((y, z) :: ps) H
inductive RelKV : List (V × V) → List (Value × Value) → Prop
  | nil : RelKV [] []
  | cons {y z : V} {u r : Value} {ps : List (V × V)} {vs : List (Value × Value)} : RelV y u → RelV z r → RelKV ps vs → RelKV ((y, z) :: ps) ((u, r) :: vs)
inductive PKV (X : Cx) (pos : Pos) : List (Option Expr) → List Expr → List (TE × TE) → List (Sem Value × Sem Value) → Prop
  | nil : PKV X pos [] [] [] []
  | cons {k v : Expr} {tk tv : TE} {ks : List (Option Expr)} {vs : List Expr} {ts : List (TE × TE)} {ps : List (Sem Value × Sem Value)} : PE X k tk → PE X v tv → PKV X pos ks vs ts ps → PKV X pos (some k :: ks) (v :: vs) ((tk, tv) :: ts) ((eval k X.env, do let x ← eval v X.env; standAt pos; pure x) :: ps)
theorem PKV.len {ks : List (Option Expr)} {vs : List Expr} {ts : List (TE × TE)} {ps : List (Sem Value × Sem Value)} (h : PKV X pos ks vs ts ps) : ps.length = ks.length := by
  induction h with
  | nil => rfl
  | cons _ _ _ ih => rw [List.length_cons, List.length_cons, ih]
theorem PKV.run {ks : List (Option Expr)} {vs : List Expr} {ts : List (TE × TE)} {ps : List (Sem Value × Sem Value)} (h : PKV X pos ks vs ts ps) : ∀ {pins : List (Addr × Obj)} {s : Shared} {σ : L2.St} {H : Hp} {Q : List (V × V) → Hp → Prop}, Inv X pins σ H s → tKV ts σ H Q →
    wpAny (model X.prog X.w) X.A (evalPairs ps) (fun us s' => ∃ qs H', Inv X pins σ H' s' ∧ RelKV qs us ∧ Q qs H') X.xe s := by
  induction h with
  | nil => exact fun I q => evalPairs_nil ⟨[], _, I, .nil, q⟩
  | cons pk pv _ ih =>
    intro pins s σ H Q I q
    refine evalPairs_cons (thn (pk.run pins s σ H _ I q) fun u s1 ⟨y, H1, I1, r1, q1⟩ => wpAny_bind (thn (pv.run pins s1 σ H1 _ I1 q1) fun u2 s2 ⟨z, H2, I2, r2, q2⟩ => wpAny_bind (wpAny_standAt (wpAny_pure ?_))))
    exact thn (ih I2 q2) fun us s3 ⟨qs, H3, I3, r3, q3⟩ => ⟨(y, z) :: qs, H3, I3, .cons r1 r2 r3, q3⟩
inductive RepKV (K : PySem.W.Frag) (ρ : Rho) (H : Hp) : List (D × D) → List (V × V) → Prop
  | nil : RepKV K ρ H [] []
  | cons {d e : D} {y z : V} {ds : List (D × D)} {vs : List (V × V)} : RepV K ρ H d y → RepV K ρ H e z → RepKV K ρ H ds vs → RepKV K ρ H ((d, e) :: ds) ((y, z) :: vs)
theorem RepKV.ext {K : PySem.W.Frag} {ρ ρ' : Rho} {H H' : Hp} (x : Ext ρ H ρ' H') : ∀ {ds : List (D × D)} {vs : List (V × V)}, RepKV K ρ H ds vs → RepKV K ρ' H' ds vs
  | _, _, .nil => .nil
  | _, _, .cons r1 r2 t => .cons (r1.ext x) (r2.ext x) (t.ext x)
inductive SKV (xp : Option XP) (X : Cx) : List (Option Expr) → List Expr → List (ME × ME) → Prop
  | nil : SKV xp X [] [] []
  | cons {k v : Expr} {mk mv : ME} {ks : List (Option Expr)} {vs : List Expr} {ms : List (ME × ME)} : SE xp X k mk → SE xp X v mv → SKV xp X ks vs ms → SKV xp X (some k :: ks) (v :: vs) ((mk, mv) :: ms)
/-! ### l.remove(x) -/
end
end Z
/-! Z30: list(d.items()) of a dict whose keys are tuples of ints. -/
namespace Z
open PySem PySem.Spec PyProof.Rows L2
/-- the data of pairs -/
inductive RepP (K : PySem.W.Frag) (ρ : Rho) (H : Hp) : List (D × D) → List (V × V) → Prop
  | nil : RepP K ρ H [] []
  | cons {d e : D} {x y : V} {ds : List (D × D)} {ps : List (V × V)} : RepV K ρ H d x → RepV K ρ H e y → RepP K ρ H ds ps → RepP K ρ H ((d, e) :: ds) ((x, y) :: ps)
theorem RepP.ext {K : PySem.W.Frag} {ρ ρ' : Rho} {H H' : Hp} (x : Ext ρ H ρ' H') : ∀ {ds : List (D × D)} {ps : List (V × V)}, RepP K ρ H ds ps → RepP K ρ' H' ds ps
  | _, _, .nil => .nil
  | _, _, .cons a b t => .cons (a.ext x) (b.ext x) (t.ext x)
section
variable {X : Cx} {pins : List (Addr × Obj)} {σ : L2.St} {H : Hp} {s : Shared} {e : Expr} {te : TE} {p apos cpos pos : Pos}
/-- the pairs of a dict -/
def itmD (kvs : List (List Int × D)) : List (D × D) := kvs.map fun kv => (.tup (kv.1.map .int), kv.2)
theorem RepT.pairs {K : PySem.W.Frag} {ρ : Rho} {H : Hp} : ∀ {ds : List (List Int × D)} {xs : List (List Int × Addr × Value)}, RepT K ρ H ds xs → ∃ ps, RepP K ρ H (itmD ds) ps ∧ Paired (fun (q : V × V) (y : List Int × Addr × Value) => q.1 = .ref y.2.1 ∧ RelV q.2 y.2.2) ps xs
  | _, _, .nil => ⟨[], .nil, .nil⟩
  | _, _, .cons h1 h2 h3 t => by
    obtain ⟨ps, a, b⟩ := t.pairs
    exact ⟨_ :: ps, .cons (.tup h1 (RepL.int's _)) h2 a, .cons ⟨rfl, h3⟩ b⟩
variable {xp : Option XP} {ma : ME}
end
end Z
/-! Z31: o1[i1], o2[i2] = a, b. -/
namespace Z
open PySem PySem.Spec PyProof.Rows L2
section
variable {xp : Option XP} {X : Cx} {e o1 i1 o2 i2 : Expr} {ma mo1 mi1 mo2 mi2 : ME} {p1 p2 : MP} {pos q1 q2 pt : Pos} {kt : Nat}
end
end Z
/-! Z33: sorted(set(xs)) of ints; min of a list of data. -/
namespace Z
open PySem PySem.Spec PyProof.Rows L2
section
variable {P : Program} {w : World} {A : Around} {E : Value → Shared → Prop} {st : Shared}
end
section
variable {xp : Option XP} {X : Cx} {e : Expr} {ma : ME} {p p2 q pos : Pos} {te : TE}
/-! ### min of data -/
end
end Z
/-! Z34: tuple * int, the int from 0 on. -/
namespace Z
open PySem PySem.Spec PyProof.Rows L2
section
variable {X : Cx}
end
end Z
/-! Z35: name = [.. for .. for ..] on one line; one sign in a text. -/
namespace Z
open PySem PySem.Spec PyProof.Rows L2
variable {xp : Option XP} {X : Cx} {pos : Pos}
theorem st_setLc2 {i : Nat} {y : Str} {py : Pos} {elt tg iter tg1 iter1 : Expr} {ifs ifs1 : List Expr} {scope : Scope} {mi mi1 : MI} {g g1 : MG} {mt mt1 : MT} {me : ME} {own : List (Str × Nat)} {vs vs1 : List Nat} (ho : own.map (·.2) = vs) (hv : ∀ i ∈ vs1, i ∈ vs) {spos : Pos} (hc : X.calm = true) (hN : X.N.Nodup) (hy : X.N[i]? = some y) (hyl : X.env.scope.names.lookup y = some .local)
    (I : SI xp X tg iter mi) (ok : BlkOk X.N X.env.scope scope own)
    (G : SGF xp X.K (Blk X scope) vs tg g) (C : STF xp X.K X.mg (Blk X scope) ifs mt) (I1 : ∀ s H C cl fp, SI xp (Blk X scope s H C cl fp) tg1 iter1 mi1) (G1 : SGF xp X.K (Blk X scope) vs1 tg1 g1) (C1 : STF xp X.K X.mg (Blk X scope) ifs1 mt1) (E : ∀ s H C cl fp, SE xp (Blk X scope s H C cl fp) elt me)
    (hsw : swapsWith (.ListComp elt [⟨tg, iter, ifs, 0⟩, ⟨tg1, iter1, ifs1, 0⟩] scope pos) (some (.Name y py)) spos.line X.env = pure true := by rfl) (hs : ∀ x, foldedSetIterable iter X.env x = pure x := by intro _; rfl) (hs1 : ∀ env x, foldedSetIterable iter1 env x = pure x := by intro _ _; rfl) :
    SS xp X (.Assign [.Name y py] (.ListComp elt [⟨tg, iter, ifs, 0⟩, ⟨tg1, iter1, ifs1, 0⟩] scope pos) spos) (setM i (lc2M mi vs g mt mi1 vs1 g1 mt1 me)) := fun W tk => by
  subst ho
  obtain ⟨wi, pi, hi⟩ := I W tk
  obtain ⟨tG, pG, hG⟩ := G
  obtain ⟨tT, pT, hT⟩ := C
  obtain ⟨tG1, pG1, hG1⟩ := G1
  obtain ⟨tT1, pT1, hT1⟩ := C1
  refine ⟨tAsg (tLc2 wi tG tT (canI X.K X.mg xp mi1) tG1 tT1 (canE X.K X.mg xp me) (own.map (·.2)) vs1) (gName i), ps_setLc2 hc hN hy hyl hsw pi ok hv pG pT (fun s H C cl fp => (I1 s H C cl fp).can) pG1 pT1 (fun s H C cl fp => (E s H C cl fp).can) hs hs1, fun ρ env ih σ H N rl post => ?_⟩
  have ha : ∀ ρ env ih σ H Q, Rel X.K xp ρ env ih σ H → PostE X.K X.mg W ρ σ H Q (lc2M mi (own.map (·.2)) g mt mi1 vs1 g1 mt1 me env ih) → tLc2 wi tG tT (canI X.K X.mg xp mi1) tG1 tT1 (canE X.K X.mg xp me) (own.map (·.2)) vs1 σ H Q := fun ρ env ih σ H Q rl post => lc2_red hi hG hT hG1 hT1 rl post
  exact fstE (ta := tLc2 wi tG tT (canI X.K X.mg xp mi1) tG1 tT1 (canE X.K X.mg xp me) (own.map (·.2)) vs1) ha rl (lkS (N := N) rl) post fun ρ1 d h1 v H1 e1 r1 p1 post => post ρ1 _ H1 .refl ((rl.next e1 r1).set i p1)
/-- one sign in a text -/
def inSM : MO := fun d e h => match d, e with
  | .str x, .str z => match x.cps.toList with
    | [c] => .ok (.bl (decide (c ∈ z.cps.toList))) h
    | _ => .stuck
  | _, _ => .stuck
theorem o_inS : SO X (compareOp .In) inSM := ⟨_, op_in_sign, fun W ρ ih H σ Q d e x y rl hd he post => by
  unfold inSM at post
  split at post
  · rename_i s z
    cases hd
    cases he
    split at post
    · rename_i c hc
      have es : s = ⟨#[c]⟩ := by
        apply Str.ext'
        exact Array.toList_inj.mp hc
      subst es
      exact ⟨c, z, rfl, rfl, post ρ _ H .refl rl (.bl _)⟩
    · exact post.elim
  · exact post.elim⟩
end Z
/-! Z36: what is not reached. -/
namespace Z
open PySem PySem.Spec PyProof.Rows L2
variable {xp : Option XP} {X : Cx}
end Z
namespace Z
open PySem PySem.Spec PyProof.Rows L2
section
variable {xp : Option XP} {X : Cx} {CX : CXT} {k j : Nat} {f : Addr} {fd : FuncData} {ps : List Str} {sp : Sp} {E : L2.St → XK} {x : Str} {p pos : Pos} {F : MF}
end
end Z
namespace Z
open PySem PySem.Spec PyProof.Rows L2
section
variable {xp : Option XP} {X : Cx} {tg e : Expr} {ma : ME}
/-- the signs of a text -/
def signD (z : Str) : List D := z.cps.toList.map fun c => .str ⟨#[c]⟩
def strI (ma : ME) : MI := fun env h => (ma env h).bind fun d h => match d with
  | .str z => .ok (.snap (signD z)) h
  | _ => .stuck
theorem its_str {K : PySem.W.Frag} {ρ : Rho} {H : Hp} {z : Str} : ItS K (Its z) ρ H (signD z) where
  go := fun i d ρ' H' ih x rl e => by
    unfold signD at e
    rw [List.getElem?_map] at e
    obtain ⟨c, hc, rfl⟩ := Option.map_eq_some_iff.mp e
    have ha : z.cps[i]? = some c := by rw [← Array.getElem?_toList]; exact hc
    refine ⟨(Array.getElem?_eq_some_iff.mp ha).1, fun y H2 ⟨eH, c', h1, h2⟩ => ?_⟩
    subst eH
    subst h2
    rw [ha] at h1
    cases h1
    exact ⟨.refl, rl, .str _⟩
  stop := fun ρ' H' x => by
    show z.cps.size ≤ (signD z).length
    unfold signD
    rw [List.length_map, Array.length_toList]
    exact Nat.le_refl _
theorem si_str (A : SE xp X e ma) : SI xp X tg e (strI ma) := fun W tk => by
  obtain ⟨ta, pa, ha⟩ := A W tk
  refine ⟨_, pi_str pa, fun ρ env ih σ H Q rl post => ?_⟩
  have post : PostI X.K X.mg W ρ σ H Q ((ma env ih).bind fun d h => match d with
    | .str z => .ok (.snap (signD z)) h
    | _ => .stuck) := post
  revert post
  cases q : ma env ih with
  | exc x h => intro post; exact ha ρ env ih σ H _ rl (by rw [q]; exact post)
  | stuck => exact fun post => post.elim
  | ok d h1 =>
    intro post
    cases d with
    | str z =>
      refine ha ρ env ih σ H _ rl (by
        rw [q]
        intro ρ1 v H1 x1 r1 p1
        cases p1
        exact ⟨z, rfl, post ρ1 _ H1 x1 r1 its_str⟩)
    | _ => exact post.elim
end
end Z
/-! Z37: methods that call each other; slices of texts; join. -/
namespace Z
open PySem PySem.Spec PyProof.Rows L2
section
variable {w : World} {K : PySem.W.Frag} {mg : Str → Option Value} {t : Tab}
/-- a method that is not reached -/
theorem fm_stuck {P : Program} {base : Heap} {c m x qual : Str} {params : Arguments} {body : List Stmt} {scope : Scope} {fd : FuncData} {ps : List Str} {k : Nat} (F : FunD K x qual params body scope [] [] (He.ma K (He.ga K c) m) fd)
    (T : Tx t K mg) (h1 : He.Fa.cls c ∈ t.own) (h2 : He.Fa.meth c m ∈ t.own) (hb : Binds K fd ps []) :
    FM P w K mg base c m k ps.length (fun _ _ => .stuck) := ⟨_, fd, ps, He.cls_ok (T.fact h1), He.meth_ok (T.fact h2), hb, fun vs H Q E h => by
    obtain ⟨_, _, _, _, _, _, post⟩ := h
    exact post.elim, fun A outer s H args us vs Q E _ _ _ _ h => by
    obtain ⟨_, _, _, _, _, _, post⟩ := h
    exact post.elim⟩
end
section
variable {xp : Option XP} {X : Cx} {a e o : Expr} {ma mo me : ME} {pos apos cpos : Pos}
def slSM (ma : ME) (ml mh : MOp) : ME := fun env h => (ma env h).bindG .exc .stuck fun d h => (ml env h).bindG .exc .stuck fun lo h => (mh env h).bindG .exc .stuck fun hi h => match d with
  | .str z => if z.length ≤ sizeLine then .ok (.str (cutS z lo hi)) h else .stuck
  | _ => .stuck
theorem s_slS {lo hi : Option Expr} {ml mh : MOp} {p2 : Pos} (A : SE xp X a ma) (L : SPo xp X lo ml) (U : SPo xp X hi mh) : SE xp X (.Subscript a (.Slice lo hi none p2) pos) (slSM ma ml mh) := fun W tk => by
  obtain ⟨ta, pa, ha⟩ := A W tk
  obtain ⟨tl, pl, hl⟩ := L W tk
  obtain ⟨tu, pu, hu⟩ := U W tk
  refine ⟨_, pe_slice sl_str pa pl pu, fun ρ env ih σ H Q rl post => ?_⟩
  refine fstE (ta := ta) ha rl (lkE (Q := Q)) post fun ρ1 d h1 v H1 e1 r1 p1 post => ?_
  have rl1 := rl.next e1 r1
  refine fstO (t := tl) hl rl1 post fun ρ2 lo h2 H2 e2 r2 post => ?_
  have rl2 := rl1.next e2 r2
  refine fstO (t := tu) hu rl2 post fun ρ3 hi h3 H3 e3 r3 post => ?_
  have p3 := p1.ext (e2.trans e3)
  split at post
  · split at post
    · rename_i c
      cases p3
      exact ⟨_, rfl, c, post ρ3 _ H3 .refl r3 (.str _)⟩
    · exact post.elim
  · exact post.elim
/-- texts -/
def strsD : List D → Option (List Str)
  | [] => some []
  | .str z :: ds => (strsD ds).map (z :: ·)
  | _ :: _ => none
theorem strsD_map : ∀ ys : List Str, strsD (ys.map D.str) = some ys
  | [] => rfl
  | y :: ys => by
    show (strsD (ys.map D.str)).map (y :: ·) = _
    rw [strsD_map ys]
    rfl
theorem strsD_rep {K : PySem.W.Frag} {ρ : Rho} {H : Hp} : ∀ {ds : List D} {vs : List V} {ys : List Str}, RepL K ρ H ds vs → strsD ds = some ys → vs = ys.map V.str
  | [], _, _, r, e => by
    cases r
    cases e
    rfl
  | d :: ds, _, _, r, e => by
    cases r with
    | cons q t =>
      cases d with
      | str z =>
        have e : (strsD ds).map (z :: ·) = _ := e
        obtain ⟨zs, e2, rfl⟩ := Option.map_eq_some_iff.mp e
        cases q
        rw [strsD_rep t e2]
        rfl
      | _ => cases e
def joinD (a : Str) (ds : List D) (h : IH) : R D := match strsD ds with
  | some ys => if (ys.map (·.length)).sum + ys.length * a.length ≤ 16777216 then .ok (.str (Txt.join a ys)) h else .stuck
  | none => .stuck
def joinM (mo me : ME) : ME := fun env h => (mo env h).bindG .exc .stuck fun d h => match d with
  | .str a => (me env h).bindG .exc .stuck fun e h => match e with
    | .tup ds => joinD a ds h
    | _ => match lisOf h e with
      | some ds => joinD a ds h
      | none => .stuck
  | _ => .stuck
theorem s_join (O : SE xp X o mo) (E : SE xp X e me) (hs : starEach [e] X.env = [(false, eval e X.env)] := by rfl) (hbase : attributeBase o "join" X.env (eval o X.env) = eval o X.env := by rfl) (hline : (apos.endLine == pos.line) = true := by rfl) :
    SE xp X (.Call (.Attribute o "join" apos) [e] [] pos) (joinM mo me) := fun W tk => by
  obtain ⟨to, po, ho⟩ := O W tk
  obtain ⟨te, pe, he⟩ := E W tk
  refine ⟨_, pe_join po pe hs hbase hline, fun ρ env ih σ H Q rl post => ?_⟩
  refine fstE (ta := to) ho rl (lkE (Q := Q)) post fun ρ1 d h1 v H1 e1 r1 p1 post => ?_
  split at post
  · rename_i a
    cases p1
    refine ⟨⟨a, rfl⟩, ?_⟩
    refine fstE (ta := te) he (rl.next e1 r1) (lkE (Q := Q)) post fun ρ2 d2 h2 u H2 e2 r2 p2 post => ?_
    split at post
    · cases p2 with
      | @tup b vs xs q1 q2 =>
        unfold joinD at post
        split at post
        · rename_i ys hy
          split at post
          · rename_i c
            have q := strsD_rep q2 hy
            subst q
            exact ⟨a, b, ys, rfl, rfl, .inr q1, c, post ρ2 _ H2 .refl r2 (.str _)⟩
          · exact post.elim
        · exact post.elim
    · split at post
      · rename_i xs q
        obtain ⟨b, us, rfl, q1, q2⟩ := lisOf_ok r2 q p2
        unfold joinD at post
        split at post
        · rename_i ys hy
          split at post
          · rename_i c
            have q := strsD_rep q2 hy
            subst q
            exact ⟨a, b, ys, rfl, rfl, .inl q1, c, post ρ2 _ H2 .refl r2 (.str _)⟩
          · exact post.elim
        · exact post.elim
      · exact post.elim
  · exact post.elim
end
end Z
/-! Z38: zip of a tuple and a list. -/
namespace Z
open PySem PySem.Spec PyProof.Rows L2
section
variable {xp : Option XP} {X : Cx}
end
end Z
/-! Z39: order of data: lists of tuples of ints. -/
namespace Z
open PySem PySem.Spec PyProof.Rows L2
section
variable {xp : Option XP} {X : Cx}
open Classical in
noncomputable def ordX (h : IH) (d e : D) : Option Bool := match pd pdK h d, pd pdK h e with
  | some p, some q => if SeqAt.shaped p = true ∧ PySem.W.alike p q = true ∧ PySem.W.alike q p = true ∧ p ≠ .none ∧ q ≠ .none ∧ SeqAt.shaped q = true then some (PySem.W.dataLt p q) else none
  | _, _ => none
noncomputable def ltDM : MO := fun d e h => match ordX h d e with
  | some b => .ok (.bl b) h
  | none => .stuck
noncomputable def leDM : MO := fun d e h => match ordX h e d with
  | some b => .ok (.bl (!b)) h
  | none => .stuck
theorem ordX_of {K : PySem.W.Frag} {ρ : Rho} {H : Hp} {ih : IH} (rl : RelH K ρ ih H) {d e : D} {x y : V} {b : Bool} (q : ordX ih d e = some b) (hd : RepV K ρ H d x) (he : RepV K ρ H e y) :
    ∃ p q, Dp K H x p ∧ Dp K H y q ∧ SeqAt.shaped p = true ∧ PySem.W.alike p q = true ∧ PySem.W.alike q p = true ∧ p ≠ .none ∧ q ≠ .none ∧ SeqAt.shaped q = true ∧ PySem.W.dataLt p q = b := by
  unfold ordX at q
  split at q
  · rename_i p q' e1 e2
    split at q
    · rename_i c
      cases q
      exact ⟨p, q', pd_dp rl e1 hd, pd_dp rl e2 he, c.1, c.2.1, c.2.2.1, c.2.2.2.1, c.2.2.2.2.1, c.2.2.2.2.2, rfl⟩
    · cases q
  · cases q
def rLtX (K : PySem.W.Frag) : V → V → Hp → VK → Prop := fun x y H Q => ∃ p q, Dp K H x p ∧ Dp K H y q ∧ SeqAt.shaped p = true ∧ PySem.W.alike p q = true ∧ p ≠ .none ∧ SeqAt.shaped q = true ∧ Q (.bl (PySem.W.dataLt p q)) H
def rLeX (K : PySem.W.Frag) : V → V → Hp → VK → Prop := fun x y H Q => ∃ p q, Dp K H x p ∧ Dp K H y q ∧ SeqAt.shaped p = true ∧ PySem.W.alike p q = true ∧ p ≠ .none ∧ SeqAt.shaped q = true ∧ Q (.bl (!PySem.W.dataLt q p)) H
theorem op_ltX (hu : X.A.units + 65 < cLine) : OpR X (compareOp .Lt) (rLtX X.K) := by
  intro pins s σ H x y v u Q I rx ry h
  obtain ⟨p, q, hp, hq, sp, al, nn, sq, z⟩ := h
  obtain ⟨as, r1⟩ := Dp.reads I p x v hp rx
  obtain ⟨bs, r2⟩ := Dp.reads I q y u hq ry
  have d1 := SeqAt.depth_of_shaped sp
  refine PySem.W.lt_data r1 r2 al nn ?_ ⟨.bl _, H, I, rfl, z⟩
  have := Nat.min_le_left p.depth q.depth
  omega
theorem op_leX (hu : X.A.units + 65 < cLine) : OpR X (compareOp .LtE) (rLeX X.K) := by
  intro pins s σ H x y v u Q I rx ry h
  obtain ⟨p, q, hp, hq, sp, al, nn, sq, z⟩ := h
  obtain ⟨as, r1⟩ := Dp.reads I p x v hp rx
  obtain ⟨bs, r2⟩ := Dp.reads I q y u hq ry
  have d1 := SeqAt.depth_of_shaped sp
  refine PySem.W.le_data r1 r2 al nn ?_ ⟨.bl _, H, I, rfl, z⟩
  have := Nat.min_le_left p.depth q.depth
  omega
theorem o_ltX (hu : X.A.units + 65 < cLine) : SO X (compareOp .Lt) ltDM := ⟨_, op_ltX hu, fun W ρ ih H σ Q d e x y rl hd he post => by
  unfold ltDM at post
  split at post
  · rename_i b q
    obtain ⟨p, q', h1, h2, h3, h4, h5, h6, h7, h8, h9⟩ := ordX_of rl q hd he
    subst h9
    exact ⟨p, q', h1, h2, h3, h4, h6, h8, post ρ _ H .refl rl (.bl _)⟩
  · exact post.elim⟩
theorem o_leX (hu : X.A.units + 65 < cLine) : SO X (compareOp .LtE) leDM := ⟨_, op_leX hu, fun W ρ ih H σ Q d e x y rl hd he post => by
  unfold leDM at post
  split at post
  · rename_i b q
    obtain ⟨p, q', h1, h2, h3, h4, h5, h6, h7, h8, h9⟩ := ordX_of rl q he hd
    subst h9
    exact ⟨q', p, h2, h1, h8, h5, h7, h3, post ρ _ H .refl rl (.bl _)⟩
  · exact post.elim⟩
end
end Z
/-! common mirrors -/
namespace Zc
open PySem PySem.Spec PyProof.Rows L2 Z
noncomputable def M_is_integer : MS := (retM (andM (isiM "int" (varM 0)) (notM (isiM "bool" (varM 0)))))
noncomputable def F_is_integer : MF := defM 1 M_is_integer
noncomputable def M_is_rational : MS := (seqM (ifM (torM (tnotM (testM (isiM "tuple" (varM 0)))) (btestM (binM neM (callM lenF (aconsM (varM 0) anilM)) (constM (.int 2))))) (retM (constM (.bl false))) nextM)
  (seqM (asgM (gtupM 2 (gconsM (gnameM 1) (gconsM (gnameM 2) gnilM))) (varM 0))
  (retM (andM (callM F_is_integer (aconsM (varM 1) anilM)) (andM (callM F_is_integer (aconsM (varM 2) anilM)) (andM (binM gtM (varM 2) (constM (.int 0))) (binM eqM (callM gcdF (aconsM (varM 1) (aconsM (varM 2) anilM))) (constM (.int 1)))))))))
noncomputable def F_is_rational : MF := defM 3 M_is_rational
noncomputable def M_reduced : MS := (seqM (setM 2 (callM gcdF (aconsM (varM 0) (aconsM (varM 1) anilM))))
  (retM (tupM (aconsM (binM fdivM (varM 0) (varM 2)) (aconsM (binM fdivM (varM 1) (varM 2)) anilM)))))
noncomputable def F_reduced : MF := defM 3 M_reduced
noncomputable def M__law_stream : MS := (retM (lstM (aconsM (callM listF (aconsM (varM 0) anilM)) (aconsM (constM (.int 0)) (aconsM (constM (.int 0)) anilM)))))
noncomputable def F__law_stream : MF := defM 1 M__law_stream
noncomputable def M__law_next : MS := (seqM (ifM (btestM (binM eqM (binM ixM (varM 0) (constM (.int 1))) (constM (.int 0)))) (seqM (setM 3 (binM ixM (varM 0) (constM (.int 2))))
  (seqM (setM 4 (binM addM (constM (.int 7)) (varM 3)))
  (seqM (ifM (btestM (binM ltM (varM 3) (callM lenF (aconsM (binM ixM (varM 0) (constM (.int 0))) anilM)))) (setM 4 (callM absF (aconsM (binM ixM (binM ixM (varM 0) (constM (.int 0))) (varM 3)) anilM))) nextM)
  (seqM (ifM (btestM (binM ltM (varM 4) (binM powM (constM (.int 10)) (constM (.int 18))))) (seqM (setM 4 (binM modM (callM intF (aconsM (binM addM (binM addM (binM mulM (varM 4) (constM (.int 48271))) (binM mulM (varM 3) (constM (.int 69621)))) (constM (.int 11))) anilM)) (constM (.int 2147483647))))
  (setM 4 (binM addM (binM mulM (binM modM (callM intF (aconsM (binM addM (binM mulM (varM 4) (constM (.int 16807))) (constM (.int 13))) anilM)) (constM (.int 2147483647))) (constM (.int 65537))) (varM 4)))) nextM)
  (seqM (putM setL (varM 0) (constM (.int 1)) (varM 4))
  (putM setL (varM 0) (constM (.int 2)) (binM addM (varM 3) (constM (.int 1))))))))) nextM)
  (seqM (setM 2 (binM modM (callM intF (aconsM (binM ixM (varM 0) (constM (.int 1))) anilM)) (varM 1)))
  (seqM (putM setL (varM 0) (constM (.int 1)) (binM fdivM (binM ixM (varM 0) (constM (.int 1))) (varM 1)))
  (retM (varM 2)))))
noncomputable def F__law_next : MF := defM 5 M__law_next
noncomputable def M__law_is_integer : MS := (retM (andM (isiM "int" (varM 0)) (notM (isiM "bool" (varM 0)))))
noncomputable def F__law_is_integer : MF := defM 1 M__law_is_integer
noncomputable def M__law_gcd : MS := (seqM (setM 0 (callM absF (aconsM (varM 0) anilM)))
  (seqM (setM 1 (callM absF (aconsM (varM 1) anilM)))
  (seqM (forM (rngI1 (aconsM (constM (.int 40000)) anilM)) (gnameM 2) (seqM (ifM (btestM (binM eqM (varM 1) (constM (.int 0)))) brkM nextM)
  (parM 0 1 (aconsM (varM 1) (aconsM (binM modM (callM intF (aconsM (varM 0) anilM)) (varM 1)) anilM)))))
  (retM (varM 0)))))
noncomputable def F__law_gcd : MF := defM 3 M__law_gcd
noncomputable def M__law_low : MS := (seqM (setM 2 (callM F__law_gcd (aconsM (varM 0) (aconsM (varM 1) anilM))))
  (seqM (ifM (btestM (binM ltM (varM 1) (constM (.int 0)))) (setM 2 (binM subM (constM (.int 0)) (varM 2))) nextM)
  (retM (tupM (aconsM (binM fdivM (varM 0) (varM 2)) (aconsM (binM fdivM (varM 1) (varM 2)) anilM))))))
noncomputable def F__law_low : MF := defM 3 M__law_low
noncomputable def M__law_times : MS := (retM (callM F__law_low (aconsM (binM mulM (binM ixM (varM 0) (constM (.int 0))) (binM ixM (varM 1) (constM (.int 0)))) (aconsM (binM mulM (binM ixM (varM 0) (constM (.int 1))) (binM ixM (varM 1) (constM (.int 1)))) anilM))))
noncomputable def F__law_times : MF := defM 2 M__law_times
end Zc
/-! common mirrors -/
namespace Zc
open PySem PySem.Spec PyProof.Rows L2 Z
noncomputable def M_plus : MS := (retM (callM F_reduced (aconsM (binM addM (binM mulM (binM ixM (varM 0) (constM (.int 0))) (binM ixM (varM 1) (constM (.int 1)))) (binM mulM (binM ixM (varM 0) (constM (.int 1))) (binM ixM (varM 1) (constM (.int 0))))) (aconsM (binM mulM (binM ixM (varM 0) (constM (.int 1))) (binM ixM (varM 1) (constM (.int 1)))) anilM))))
noncomputable def F_plus : MF := defM 2 M_plus
noncomputable def M_times : MS := (retM (callM F_reduced (aconsM (binM mulM (binM ixM (varM 0) (constM (.int 0))) (binM ixM (varM 1) (constM (.int 0)))) (aconsM (binM mulM (binM ixM (varM 0) (constM (.int 1))) (binM ixM (varM 1) (constM (.int 1)))) anilM))))
noncomputable def F_times : MF := defM 2 M_times
noncomputable def M_less : MS := (retM (binM ltM (binM mulM (binM ixM (varM 0) (constM (.int 0))) (binM ixM (varM 1) (constM (.int 1)))) (binM mulM (binM ixM (varM 0) (constM (.int 1))) (binM ixM (varM 1) (constM (.int 0))))))
noncomputable def F_less : MF := defM 2 M_less
noncomputable def M__law_equal (F__law_equal : MF) : MS := (seqM (ifM (btestM (binM (isM false) (varM 1) (constM .non))) (retM (binM (isM false) (varM 0) (constM .non))) nextM)
  (seqM (ifM (testM (isiM "bool" (varM 1))) (retM (andM (isiM "bool" (varM 0)) (binM eqM (varM 0) (varM 1)))) nextM)
  (seqM (ifM (testM (isiM "int" (varM 1))) (retM (andM (callM F__law_is_integer (aconsM (varM 0) anilM)) (binM eqM (varM 0) (varM 1)))) nextM)
  (seqM (ifM (testM (isiM "str" (varM 1))) (retM (andM (isiM "str" (varM 0)) (binM eqM (varM 0) (varM 1)))) nextM)
  (seqM (ifM (tandM (testM (isiM "tuple" (varM 1))) (tnotM (testM (isiM "tuple" (varM 0))))) (retM (constM (.bl false))) nextM)
  (seqM (ifM (tandM (testM (isiM "list" (varM 1))) (tnotM (testM (isiM "list" (varM 0))))) (retM (constM (.bl false))) nextM)
  (seqM (ifM (btestM (binM neM (callM lenF (aconsM (varM 0) anilM)) (callM lenF (aconsM (varM 1) anilM)))) (retM (constM (.bl false))) nextM)
  (retM (callM allF (aconsM (lcM (rngI1 (aconsM (callM lenF (aconsM (varM 1) anilM)) anilM)) [2] (gnameM 2) yesM (callM F__law_equal (aconsM (binM ixM (varM 0) (varM 2)) (aconsM (binM ixM (varM 1) (varM 2)) anilM)))) anilM))))))))))
noncomputable def F__law_equal_r : Nat → MF
  | 0 => fun _ _ => .stuck
  | n + 1 => defM 3 (M__law_equal (F__law_equal_r n))
noncomputable def F__law_equal : MF := F__law_equal_r 10
end Zc
/-! common mirrors -/
namespace Zc
open PySem PySem.Spec PyProof.Rows L2 Z
noncomputable def M_is_index : MS := (retM (andM (callM F_is_integer (aconsM (varM 0) anilM)) (chainM leM ltM (constM (.int 0)) (varM 0) (varM 1))))
noncomputable def F_is_index : MF := defM 2 M_is_index
noncomputable def M_is_chance : MS := (retM (andM (callM F_is_rational (aconsM (varM 0) anilM)) (andM (binM gtM (binM ixM (varM 0) (constM (.int 0))) (constM (.int 0))) (binM leM (binM ixM (varM 0) (constM (.int 1))) (constM (.int 60))))))
noncomputable def F_is_chance : MF := defM 1 M_is_chance
noncomputable def M__law_chances : MS := (seqM (setM 2 (lstM anilM))
  (seqM (setM 3 (constM (.int 60)))
  (seqM (forM (rngI1 (aconsM (binM subM (varM 1) (constM (.int 1))) anilM)) (gnameM 4) (seqM (setM 5 (binM addM (constM (.int 1)) (callM F__law_next (aconsM (varM 0) (aconsM (binM addM (binM addM (binM subM (varM 3) (varM 1)) (constM (.int 1))) (varM 4)) anilM)))))
  (seqM (exprM (methM appendF (varM 2) (aconsM (callM F__law_low (aconsM (varM 5) (aconsM (constM (.int 60)) anilM))) anilM)))
  (setM 3 (binM subM (varM 3) (varM 5))))))
  (retM (binM addM (varM 2) (lstM (aconsM (callM F__law_low (aconsM (varM 3) (aconsM (constM (.int 60)) anilM))) anilM)))))))
noncomputable def F__law_chances : MF := defM 6 M__law_chances
end Zc
/-! common mirrors -/
namespace Zc
open PySem PySem.Spec PyProof.Rows L2 Z
end Zc
/-! common mirrors -/
namespace Zc
open PySem PySem.Spec PyProof.Rows L2 Z
noncomputable def M_is_letter : MS := (retM (andM (isiM "str" (varM 0)) (andM (binM eqM (callM lenF (aconsM (varM 0) anilM)) (constM (.int 1))) (binM inSM (varM 0) (constM (.str "abcdefghijklmnopqrstuvwxyz"))))))
noncomputable def F_is_letter : MF := defM 1 M_is_letter
noncomputable def M_is_rule : MS := (seqM (ifM (torM (tnotM (testM (isiM "tuple" (varM 0)))) (torM (btestM (binM neM (callM lenF (aconsM (varM 0) anilM)) (constM (.int 2)))) (tnotM (testM (callM F_is_chance (aconsM (binM ixM (varM 0) (constM (.int 0))) anilM)))))) (retM (constM (.bl false))) nextM)
  (seqM (ifM (torM (tnotM (testM (isiM "tuple" (binM ixM (varM 0) (constM (.int 1)))))) (btestM (binM gtM (callM lenF (aconsM (binM ixM (varM 0) (constM (.int 1))) anilM)) (constM (.int 4))))) (retM (constM (.bl false))) nextM)
  (retM (callM allF (aconsM (lcM (seqI (binM ixM (varM 0) (constM (.int 1)))) [2] (gnameM 2) yesM (orM (callM F_is_letter (aconsM (varM 2) anilM)) (callM F_is_index (aconsM (varM 2) (aconsM (varM 1) anilM))))) anilM)))))
noncomputable def F_is_rule : MF := defM 3 M_is_rule
noncomputable def M_is_rules : MS := (seqM (ifM (torM (tnotM (testM (isiM "tuple" (varM 0)))) (tnotM (btestM (chainM leM leM (constM (.int 1)) (callM lenF (aconsM (varM 0) anilM)) (constM (.int 4)))))) (retM (constM (.bl false))) nextM)
  (seqM (ifM (tnotM (testM (callM allF (aconsM (lcM (seqI (varM 0)) [5] (gnameM 5) yesM (callM F_is_rule (aconsM (varM 5) (aconsM (varM 1) anilM)))) anilM)))) (retM (constM (.bl false))) nextM)
  (seqM (setM 2 (constM (.tup [(.int 0), (.int 1)])))
  (seqM (forM (seqI (varM 0)) (gtupM 2 (gconsM (gnameM 3) (gconsM (gnameM 4) gnilM))) (setM 2 (callM F_plus (aconsM (varM 2) (aconsM (varM 3) anilM)))))
  (retM (andM (binM eqM (varM 2) (constM (.tup [(.int 1), (.int 1)]))) (binM leM (callM sumF (aconsM (lcM (seqI (varM 0)) [3, 4] (gtupM 2 (gconsM (gnameM 3) (gconsM (gnameM 4) gnilM))) yesM (callM lenF (aconsM (varM 4) anilM))) anilM)) (constM (.int 14)))))))))
noncomputable def F_is_rules : MF := defM 6 M_is_rules
noncomputable def M_is_grammar : MS := (seqM (ifM (torM (tnotM (testM (isiM "tuple" (varM 0)))) (tnotM (btestM (chainM leM leM (constM (.int 1)) (callM lenF (aconsM (varM 0) anilM)) (constM (.int 6)))))) (retM (constM (.bl false))) nextM)
  (seqM (ifM (tnotM (testM (callM allF (aconsM (lcM (seqI (varM 0)) [2] (gnameM 2) yesM (callM F_is_rules (aconsM (varM 2) (aconsM (callM lenF (aconsM (varM 0) anilM)) anilM)))) anilM)))) (retM (constM (.bl false))) nextM)
  (seqM (ifM (btestM (binM gtM (callM sumF (aconsM (lcM (seqI (varM 0)) [2] (gnameM 2) yesM (callM lenF (aconsM (varM 2) anilM))) anilM)) (constM (.int 12)))) (retM (constM (.bl false))) nextM)
  (seqM (setM 1 (lc2M (seqI (varM 0)) [2, 3] (gnameM 2) yesM (seqI (varM 2)) [3] (gnameM 3) yesM (callM lenF (aconsM (binM ixM (varM 3) (constM (.int 1))) anilM))))
  (retM (binM leM (binM addM (binM mulM (constM (.int 2)) (callM lenF (aconsM (varM 0) anilM))) (callM sumF (aconsM (varM 1) anilM))) (constM (.int 40))))))))
noncomputable def F_is_grammar : MF := defM 4 M_is_grammar
noncomputable def M_check_grammar : MS := (ifM (tnotM (testM (callM F_is_grammar (aconsM (varM 0) anilM)))) (raiseM "BadValue" ["name"] (aconsM (constM (.str "grammar")) anilM)) nextM)
noncomputable def F_check_grammar : MF := defM 1 M_check_grammar
noncomputable def M__law_symbol : MS := (seqM (ifM (btestM (binM ltM (callM F__law_next (aconsM (varM 0) (aconsM (constM (.int 5)) anilM))) (constM (.int 2)))) (retM (callM F__law_next (aconsM (varM 0) (aconsM (varM 1) anilM)))) nextM)
  (retM (binM ixM (constM (.str "azm")) (callM F__law_next (aconsM (varM 0) (aconsM (varM 2) anilM))))))
noncomputable def F__law_symbol : MF := defM 3 M__law_symbol
end Zc
/-! common mirrors -/
namespace Zc
open PySem PySem.Spec PyProof.Rows L2 Z
noncomputable def M_is_plain : MS := (seqM (exprM (callM F_check_grammar (aconsM (varM 0) anilM)))
  (seqM (forM (seqI (varM 0)) (gnameM 1) (forM (seqI (varM 1)) (gtupM 2 (gconsM (gnameM 2) (gconsM (gnameM 3) gnilM))) (ifM (torM (btestM (binM eqM (callM lenF (aconsM (varM 3) anilM)) (constM (.int 0)))) (tandM (btestM (binM eqM (callM lenF (aconsM (varM 3) anilM)) (constM (.int 1)))) (tnotM (testM (callM F_is_letter (aconsM (binM ixM (varM 3) (constM (.int 0))) anilM)))))) (retM (constM (.bl false))) nextM)))
  (retM (constM (.bl true)))))
noncomputable def F_is_plain : MF := defM 4 M_is_plain
noncomputable def M_check_plain : MS := (ifM (tnotM (testM (callM F_is_plain (aconsM (varM 0) anilM)))) (raiseM "NotTold" ["reason"] (aconsM (tupM (aconsM (constM (.str "plain")) anilM)) anilM)) nextM)
noncomputable def F_check_plain : MF := defM 1 M_check_plain
noncomputable def M_check_word : MS := (ifM (torM (tnotM (testM (isiM "str" (varM 0)))) (torM (btestM (binM gtM (callM lenF (aconsM (varM 0) anilM)) (varM 1))) (tnotM (testM (callM allF (aconsM (lcM (strI (varM 0)) [2] (gnameM 2) yesM (callM F_is_letter (aconsM (varM 2) anilM))) anilM)))))) (raiseM "BadValue" ["name"] (aconsM (constM (.str "word")) anilM)) nextM)
noncomputable def F_check_word : MF := defM 3 M_check_word
noncomputable def M__law_plain_symbols : MS := (seqM (ifM (btestM (binM eqM (callM F__law_next (aconsM (varM 0) (aconsM (constM (.int 3)) anilM))) (constM (.int 0)))) (retM (tupM (aconsM (binM ixM (constM (.str "azm")) (callM F__law_next (aconsM (varM 0) (aconsM (varM 2) anilM)))) anilM))) nextM)
  (retM (callM tupleF (aconsM (lcM (rngI1 (aconsM (binM addM (constM (.int 2)) (callM F__law_next (aconsM (varM 0) (aconsM (binM subM (varM 3) (constM (.int 1))) anilM)))) anilM)) [4] (gnameM 4) yesM (callM F__law_symbol (aconsM (varM 0) (aconsM (varM 1) (aconsM (varM 2) anilM))))) anilM))))
noncomputable def F__law_plain_symbols : MF := defM 5 M__law_plain_symbols
noncomputable def M__law_grammar : MS := (seqM (setM 3 (binM addM (constM (.int 1)) (callM F__law_next (aconsM (varM 0) (aconsM (constM (.int 3)) anilM)))))
  (seqM (setM 4 (lstM anilM))
  (seqM (forM (rngI1 (aconsM (varM 3) anilM)) (gnameM 5) (seqM (setM 6 (lstM anilM))
  (seqM (forM (seqI (callM F__law_chances (aconsM (varM 0) (aconsM (binM addM (constM (.int 1)) (callM F__law_next (aconsM (varM 0) (aconsM (constM (.int 3)) anilM)))) anilM)))) (gnameM 7) (exprM (methM appendF (varM 6) (aconsM (tupM (aconsM (varM 7) (aconsM (callM F__law_plain_symbols (aconsM (varM 0) (aconsM (varM 3) (aconsM (varM 1) (aconsM (varM 2) anilM))))) anilM))) anilM))))
  (exprM (methM appendF (varM 4) (aconsM (callM tupleF (aconsM (varM 6) anilM)) anilM))))))
  (retM (callM tupleF (aconsM (varM 4) anilM))))))
noncomputable def F__law_grammar : MF := defM 8 M__law_grammar
noncomputable def M__law_trees (F__law_trees F__law_rows : MF) : MS := (seqM (ifM (testM (isiM "str" (varM 1))) (retM (iteM (btestM (binM gtM (varM 2) (constM (.int 0)))) (lstM (aconsM (tupM (aconsM (tupM (aconsM (constM (.int 1)) (aconsM (constM (.int 1)) anilM))) (aconsM (varM 1) (aconsM (lstM anilM) anilM)))) anilM)) (lstM anilM))) nextM)
  (seqM (setM 3 (lstM anilM))
  (seqM (forM (enumI (oneM (aconsM (binM ixM (varM 0) (varM 1)) anilM))) (gtupM 2 (gconsM (gnameM 4) (gconsM (gnameM 5) gnilM))) (ifM (btestM (binM leM (callM lenF (aconsM (binM ixM (varM 5) (constM (.int 1))) anilM)) (varM 2))) (forM (seqI (callM F__law_rows (aconsM (varM 0) (aconsM (binM ixM (varM 5) (constM (.int 1))) (aconsM (varM 2) anilM))))) (gtupM 3 (gconsM (gnameM 6) (gconsM (gnameM 7) (gconsM (gnameM 8) gnilM)))) (exprM (methM appendF (varM 3) (aconsM (tupM (aconsM (callM F__law_times (aconsM (binM ixM (varM 5) (constM (.int 0))) (aconsM (varM 6) anilM))) (aconsM (varM 7) (aconsM (binM addM (lstM (aconsM (tupM (aconsM (varM 1) (aconsM (varM 4) anilM))) anilM)) (varM 8)) anilM)))) anilM)))) nextM))
  (retM (varM 3)))))
noncomputable def M__law_rows (F__law_trees F__law_rows : MF) : MS := (seqM (setM 3 (lstM (aconsM (tupM (aconsM (tupM (aconsM (constM (.int 1)) (aconsM (constM (.int 1)) anilM))) (aconsM (constM (.str "")) (aconsM (lstM anilM) anilM)))) anilM)))
  (seqM (forM (enumI (oneM (aconsM (varM 1) anilM))) (gtupM 2 (gconsM (gnameM 4) (gconsM (gnameM 5) gnilM))) (seqM (setM 6 (lstM anilM))
  (seqM (forM (seqI (varM 3)) (gtupM 3 (gconsM (gnameM 7) (gconsM (gnameM 8) (gconsM (gnameM 9) gnilM)))) (seqM (setM 10 (binM subM (binM subM (varM 2) (callM lenF (aconsM (varM 8) anilM))) (binM subM (binM subM (callM lenF (aconsM (varM 1) anilM)) (constM (.int 1))) (varM 4))))
  (forM (seqI (callM F__law_trees (aconsM (varM 0) (aconsM (varM 5) (aconsM (varM 10) anilM))))) (gtupM 3 (gconsM (gnameM 11) (gconsM (gnameM 12) (gconsM (gnameM 13) gnilM)))) (exprM (methM appendF (varM 6) (aconsM (tupM (aconsM (callM F__law_times (aconsM (varM 7) (aconsM (varM 11) anilM))) (aconsM (binM addM (varM 8) (varM 12)) (aconsM (binM addM (varM 9) (varM 13)) anilM)))) anilM))))))
  (setM 3 (varM 6)))))
  (retM (varM 3))))
noncomputable def FG__law_trees_r : Nat → MF × MF
  | 0 => (fun _ _ => .stuck, fun _ _ => .stuck)
  | n + 1 => (defM 9 (M__law_trees ((FG__law_trees_r n).1) ((FG__law_trees_r n).2)), defM 14 (M__law_rows ((FG__law_trees_r n).1) ((FG__law_trees_r n).2)))
noncomputable def F__law_trees_r (n : Nat) : MF := (FG__law_trees_r n).1
noncomputable def F__law_trees : MF := F__law_trees_r 60
noncomputable def F__law_rows_r (n : Nat) : MF := (FG__law_trees_r n).2
noncomputable def F__law_rows : MF := F__law_rows_r 60
end Zc
/-! the mirrors -/
namespace Zl
open PySem PySem.Spec PyProof.Rows L2 Z Zc
def tab : Tab where
  free := ["abs", "all", "bool", "enumerate", "int", "isinstance", "len", "list", "range", "str", "sum", "tuple"]
  bi := [("gcd", "math.gcd")]
  cls := (["OddsError", "BadValue", "NotTold", "Best", "_law_is_integer", "_law_equal", "less", "better", "reduced", "times", "is_letter", "check_word", "plus", "is_integer", "is_index", "is_integer_rationals", "is_rational", "is_chance", "is_rule", "is_rules", "is_grammar", "check_grammar", "is_plain", "check_plain", "best_tree", "_law_best", "_law_next", "_law_gcd", "_law_low", "_law_times"] : List Str) ++ (["_law_trees", "_law_rows", "_law_chances", "_law_symbol", "_law_plain_symbols", "_law_grammar", "_law_stream", "law"] : List Str)
  exc := [("BadValue", ["name"]), ("NotTold", ["reason"])]
  ex := [("BadValue", "OddsError", true), ("BadValue", "BadValue", true), ("BadValue", "NotTold", false), ("NotTold", "OddsError", true), ("NotTold", "BadValue", false), ("NotTold", "NotTold", true)]
  ey := [("BadValue", "ValueError", true), ("NotTold", "ValueError", true)]
  con := [("LETTERS", (.str "abcdefghijklmnopqrstuvwxyz")), ("ONE", (.tup [(.int 1), (.int 1)])), ("LONGEST_WORD", (.int 8)), ("MOST_POINTS", (.int 40)), ("MOST_RULES_IN_ALL", (.int 12)), ("MOST_SYMBOLS_OF_ONE", (.int 14)), ("ZERO", (.tup [(.int 0), (.int 1)])), ("MOST_SYMBOLS", (.int 4)), ("MOST_DENOMINATOR", (.int 60)), ("MOST_RULES", (.int 4)), ("MOST_VARIABLES", (.int 6))]
  ali := [("is_integer_graphs", "is_integer")]
  own := [.cls "Best", .mkr "Best", .noat "Best" "grammar", .noat "Best" "known", .noat "Best" "word", .meth "Best" "row", .meth "Best" "tree"]
  icl := []
  kit := []
  kio := []
  dts := []
noncomputable def M_better : MS := (seqM (ifM (torM (btestM (binM (isM false) (varM 0) (constM .non))) (testM (callM F_less (aconsM (binM ixM (varM 0) (constM (.int 0))) (aconsM (binM ixM (varM 1) (constM (.int 0))) anilM))))) (retM (varM 1)) nextM)
  (seqM (ifM (torM (testM (callM F_less (aconsM (binM ixM (varM 1) (constM (.int 0))) (aconsM (binM ixM (varM 0) (constM (.int 0))) anilM)))) (btestM (binM leDM (binM ixM (varM 0) (constM (.int 1))) (binM ixM (varM 1) (constM (.int 1)))))) (retM (varM 0)) nextM)
  (retM (varM 1))))
noncomputable def F_better : MF := defM 2 M_better
noncomputable def M_Best_tree (F_Best_tree F_Best_row : MF) : MS := (seqM (ifM (testM (callM F_is_letter (aconsM (varM 1) anilM))) (retM (iteM (btestM (binM eqM (slSM (fldM (okF ["Best"] "word") "word" (varM 0)) (someO (varM 2)) (someO (varM 3))) (varM 1))) (tupM (aconsM (constM (.tup [(.int 1), (.int 1)])) (aconsM (lstM anilM) anilM))) (constM .non))) nextM)
  (seqM (ifM (btestM (binM (dinM true) (tupM (aconsM (varM 1) (aconsM (varM 2) (aconsM (varM 3) anilM)))) (fldM (okF ["Best"] "known") "known" (varM 0)))) (seqM (setM 4 (constM .non))
  (seqM (forM (enumI (oneM (aconsM (binM ixM (fldM (okF ["Best"] "grammar") "grammar" (varM 0)) (varM 1)) anilM))) (gtupM 2 (gconsM (gnameM 5) (gconsM (gtupM 2 (gconsM (gnameM 7) (gconsM (gnameM 8) gnilM))) gnilM))) (seqM (setM 6 (omM "Best" "row" F_Best_row (varM 0) (aconsM (varM 8) (aconsM (varM 2) (aconsM (varM 3) anilM)))))
  (ifM (btestM (binM (isM true) (varM 6) (constM .non))) (setM 4 (callM F_better (aconsM (varM 4) (aconsM (tupM (aconsM (callM F_times (aconsM (varM 7) (aconsM (binM ixM (varM 6) (constM (.int 0))) anilM))) (aconsM (binM addM (lstM (aconsM (tupM (aconsM (varM 1) (aconsM (varM 5) anilM))) anilM)) (binM ixM (varM 6) (constM (.int 1)))) anilM))) anilM)))) nextM)))
  (putM setDi (fldM (okF ["Best"] "known") "known" (varM 0)) (tupM (aconsM (varM 1) (aconsM (varM 2) (aconsM (varM 3) anilM)))) (varM 4)))) nextM)
  (retM (binM dgetM (fldM (okF ["Best"] "known") "known" (varM 0)) (tupM (aconsM (varM 1) (aconsM (varM 2) (aconsM (varM 3) anilM))))))))
noncomputable def M_Best_row (F_Best_tree F_Best_row : MF) : MS := (seqM (ifM (btestM (binM eqM (callM lenF (aconsM (varM 1) anilM)) (constM (.int 1)))) (retM (omM "Best" "tree" F_Best_tree (varM 0) (aconsM (binM ixM (varM 1) (constM (.int 0))) (aconsM (varM 2) (aconsM (varM 3) anilM))))) nextM)
  (seqM (setM 4 (constM .non))
  (seqM (forM (rngI2 (aconsM (binM addM (varM 2) (constM (.int 1))) (aconsM (binM addM (binM subM (varM 3) (callM lenF (aconsM (varM 1) anilM))) (constM (.int 2))) anilM))) (gnameM 5) (seqM (setM 6 (omM "Best" "tree" F_Best_tree (varM 0) (aconsM (binM ixM (varM 1) (constM (.int 0))) (aconsM (varM 2) (aconsM (varM 5) anilM)))))
  (seqM (setM 7 (iteM (btestM (binM (isM false) (varM 6) (constM .non))) (constM .non) (omM "Best" "row" F_Best_row (varM 0) (aconsM (slM (varM 1) (someO (constM (.int 1))) noneO) (aconsM (varM 5) (aconsM (varM 3) anilM))))))
  (ifM (btestM (binM (isM true) (varM 7) (constM .non))) (setM 4 (callM F_better (aconsM (varM 4) (aconsM (tupM (aconsM (callM F_times (aconsM (binM ixM (varM 6) (constM (.int 0))) (aconsM (binM ixM (varM 7) (constM (.int 0))) anilM))) (aconsM (binM addM (binM ixM (varM 6) (constM (.int 1))) (binM ixM (varM 7) (constM (.int 1)))) anilM))) anilM)))) nextM))))
  (retM (varM 4)))))
noncomputable def FG_Best_tree_r : Nat → MF × MF
  | 0 => (fun _ _ => .stuck, fun _ _ => .stuck)
  | n + 1 => (defM 9 (M_Best_tree ((FG_Best_tree_r n).1) ((FG_Best_tree_r n).2)), defM 8 (M_Best_row ((FG_Best_tree_r n).1) ((FG_Best_tree_r n).2)))
noncomputable def F_Best_tree_r (n : Nat) : MF := (FG_Best_tree_r n).1
noncomputable def F_Best_tree : MF := F_Best_tree_r 60
noncomputable def F_Best_row_r (n : Nat) : MF := (FG_Best_tree_r n).2
noncomputable def F_Best_row : MF := F_Best_row_r 60
noncomputable def M_Best_init : MS := (seqM (ostM (okF ["Best"] "grammar") "grammar" (varM 0) (varM 1))
  (seqM (ostM (okF ["Best"] "word") "word" (varM 0) (varM 2))
  (ostM (okF ["Best"] "known") "known" (varM 0) (dnewM true))))
noncomputable def F_Best_init : MF := defM 3 M_Best_init
noncomputable def M_best_tree : MS := (seqM (exprM (callM F_check_plain (aconsM (varM 0) anilM)))
  (seqM (exprM (callM F_check_word (aconsM (varM 1) (aconsM (constM (.int 8)) anilM))))
  (seqM (setM 2 (iteM (btestM (binM eqM (varM 1) (constM (.str "")))) (constM .non) (omM "Best" "tree" F_Best_tree (mkM "Best" F_Best_init (aconsM (varM 0) (aconsM (varM 1) anilM))) (aconsM (constM (.int 0)) (aconsM (constM (.int 0)) (aconsM (callM lenF (aconsM (varM 1) anilM)) anilM))))))
  (retM (iteM (btestM (binM (isM false) (varM 2) (constM .non))) (constM .non) (tupM (aconsM (binM ixM (varM 2) (constM (.int 0))) (aconsM (callM listF (aconsM (binM ixM (varM 2) (constM (.int 1))) anilM)) anilM))))))))
noncomputable def F_best_tree : MF := defM 3 M_best_tree
noncomputable def M__law_best : MS := (seqM (setM 2 (constM .non))
  (seqM (forM (seqI (varM 0)) (gtupM 3 (gconsM (gnameM 3) (gconsM (gnameM 4) (gconsM (gnameM 5) gnilM)))) (ifM (btestM (binM eqM (varM 4) (varM 1))) (ifM (torM (btestM (binM (isM false) (varM 2) (constM .non))) (btestM (binM gtM (binM mulM (binM ixM (varM 3) (constM (.int 0))) (binM ixM (binM ixM (varM 2) (constM (.int 0))) (constM (.int 1)))) (binM mulM (binM ixM (binM ixM (varM 2) (constM (.int 0))) (constM (.int 0))) (binM ixM (varM 3) (constM (.int 1))))))) (setM 2 (tupM (aconsM (varM 3) (aconsM (varM 5) anilM)))) (ifM (tandM (btestM (binM eqM (varM 3) (binM ixM (varM 2) (constM (.int 0))))) (btestM (binM ltDM (varM 5) (binM ixM (varM 2) (constM (.int 1)))))) (setM 2 (tupM (aconsM (varM 3) (aconsM (varM 5) anilM)))) nextM)) nextM))
  (retM (varM 2))))
noncomputable def F__law_best : MF := defM 6 M__law_best
noncomputable def M_law : MS := (seqM (setM 1 (callM F__law_stream (aconsM (varM 0) anilM)))
  (seqM (setM 2 (binM addM (constM (.int 1)) (callM F__law_next (aconsM (varM 1) (aconsM (constM (.int 2)) anilM)))))
  (seqM (setM 3 (callM F__law_grammar (aconsM (varM 1) (aconsM (varM 2) (aconsM (constM (.int 3)) anilM)))))
  (seqM (setM 4 (callM F__law_trees (aconsM (varM 3) (aconsM (constM (.int 0)) (aconsM (binM subM (constM (.int 5)) (varM 2)) anilM)))))
  (seqM (forM (rngI1 (aconsM (constM (.int 3)) anilM)) (gnameM 5) (seqM (setM 6 (joinM (constM (.str "")) (lcM (rngI1 (aconsM (callM F__law_next (aconsM (varM 1) (aconsM (constM (.int 5)) anilM))) anilM)) [10] (gnameM 10) yesM (binM ixM (constM (.str "azm")) (callM F__law_next (aconsM (varM 1) (aconsM (varM 2) anilM)))))))
  (seqM (ifM (tandM (testM (varM 4)) (btestM (binM ltM (varM 5) (constM (.int 2))))) (setM 6 (binM ixM (binM ixM (varM 4) (callM F__law_next (aconsM (varM 1) (aconsM (callM lenF (aconsM (varM 4) anilM)) anilM)))) (constM (.int 1)))) nextM)
  (seqM (setM 7 (iteM (btestM (binM leM (callM lenF (aconsM (varM 6) anilM)) (binM subM (constM (.int 5)) (varM 2)))) (callM F__law_best (aconsM (varM 4) (aconsM (varM 6) anilM))) (constM .non)))
  (seqM (setM 8 (callM F_best_tree (aconsM (varM 3) (aconsM (varM 6) anilM))))
  (seqM (ifM (tandM (btestM (binM leM (callM lenF (aconsM (varM 6) anilM)) (binM subM (constM (.int 5)) (varM 2)))) (tnotM (testM (callM F__law_equal (aconsM (varM 8) (aconsM (varM 7) anilM)))))) (retM (constM (.bl false))) nextM)
  (ifM (btestM (binM (isM true) (varM 8) (constM .non))) (seqM (exprM (methM appendF (binM ixM (varM 8) (constM (.int 1))) (aconsM (tupM (aconsM (constM (.int 0)) (aconsM (constM (.int 0)) anilM))) anilM)))
  (seqM (setM 9 (callM F_best_tree (aconsM (varM 3) (aconsM (varM 6) anilM))))
  (ifM (tnotM (testM (callM F__law_equal (aconsM (slM (binM ixM (varM 8) (constM (.int 1))) noneO (someO (negM (constM (.int 1))))) (aconsM (binM ixM (varM 9) (constM (.int 1))) anilM))))) (retM (constM (.bl false))) nextM))) nextM)))))))
  (retM (constM (.bl true))))))))
noncomputable def F_law : MF := defM 11 M_law
end Zl
namespace Zl
open PySem PySem.Spec PyProof.Rows L2 Z Zc
def top (i : Nat) : Stmt := PySem.Challenge.pw_oddscall_k76_best_trees.main.body.getD i (.Pass ⟨0, 0, 0, 0⟩)
abbrev FnP (K : PySem.W.Frag) (x : Str) (st : Stmt) (f : Addr) (fd : FuncData) : Prop := FunD K x x (defArgs st) (defBody st) (defScope st) [] [] f fd
section
variable {P : Program} {w : World} {K : PySem.W.Frag} {mg : Str → Option Value} {base : Heap}
theorem sc__law_is_integer : FnScope ["_law_actual"] ["_law_actual"] (defScope (top 44)) := ⟨rfl, rfl, rfl, by decide +kernel, rfl, by decide +kernel, by decide +kernel⟩
theorem sim__law_is_integer {f : Addr} {fd : FuncData} (F : FnP K "_law_is_integer" (top 44) f fd) (hm : mg "_law_is_integer" = some (.ref f)) (T : Tx tab K mg) : FS P w K mg base "_law_is_integer" 1 1 F__law_is_integer := by
  refine fs_of (n := 1) (m := M__law_is_integer) F sc__law_is_integer rfl hm (F.bindsN fun _ _ _ _ _ _ us hl => match us, hl with | [_], _ => rfl) fun cdv A outer s H E hr => ?_
  have hu := hr.units
  have T_fok : XFs K tab.fok := T.fokE
  exact (ss_one (st_ret (s_and (s_isi rfl (T.mn "isinstance" (by decide)) rfl (T.mn "int" (by decide)) (by decide +kernel) (s_var (pv 0))) (s_one (s_not (s_isi rfl (T.mn "isinstance" (by decide)) rfl (T.mn "bool" (by decide)) (by decide +kernel) (s_var (pv 0))))))))
theorem sc__law_equal : FnScope ["_law_actual", "_law_due", "_law_at"] ["_law_actual", "_law_due"] (defScope (top 48)) := ⟨rfl, rfl, rfl, by decide +kernel, rfl, by decide +kernel, by decide +kernel⟩
theorem sim__law_equal {f : Addr} {fd : FuncData} (F : FnP K "_law_equal" (top 48) f fd) (hm : mg "_law_equal" = some (.ref f)) (T : Tx tab K mg) (fs__law_is_integer : FS P w K mg base "_law_is_integer" 1 1 F__law_is_integer) : FS P w K mg base "_law_equal" 12 2 F__law_equal := by
  have hb : Binds K fd ["_law_actual", "_law_due"] [] := F.bindsN fun _ _ _ _ _ _ us hl => match us, hl with | [_, _], _ => rfl
  have q : ∀ m, FS P w K mg base "_law_equal" (2 + m) 2 (F__law_equal_r m) := fun m => by
    induction m with
    | zero => exact fs_stuck F hm hb
    | succ m fs__law_equal =>
      refine fs_of (n := 3) (m := M__law_equal (F__law_equal_r m)) F sc__law_equal rfl hm hb fun cdv A outer s H E hr => ?_
      have hr : Room (2 + m) (A.deeper (envOfC _ _ s.heap.objs.size f cdv)) := hr
      have hu := hr.units
      have T_fok : XFs K tab.fok := T.fokE
      exact (ss_cons (st_if (t_cmp o_is (s_var (pv 1)) s_non (nomark _)) (ss_one (st_ret (s_cmp o_is (s_var (pv 0)) s_non (nomark _)))) ss_nil)
  (ss_cons (st_if (t_truth (s_isi rfl (T.mn "isinstance" (by decide)) rfl (T.mn "bool" (by decide)) (by decide +kernel) (s_var (pv 1)))) (ss_one (st_ret (s_and (s_isi rfl (T.mn "isinstance" (by decide)) rfl (T.mn "bool" (by decide)) (by decide +kernel) (s_var (pv 0))) (s_one (s_cmp (o_eq hu) (s_var (pv 0)) (s_var (pv 1)) (nomark _)))))) ss_nil)
  (ss_cons (st_if (t_truth (s_isi rfl (T.mn "isinstance" (by decide)) rfl (T.mn "int" (by decide)) (by decide +kernel) (s_var (pv 1)))) (ss_one (st_ret (s_and (s_call fs__law_is_integer hr (by first | decide | omega) rfl rfl (s_acons (s_var (pv 0)) s_anil) (hml := (la_cons la_nil))) (s_one (s_cmp (o_eq hu) (s_var (pv 0)) (s_var (pv 1)) (nomark _)))))) ss_nil)
  (ss_cons (st_if (t_truth (s_isi rfl (T.mn "isinstance" (by decide)) rfl (T.mn "str" (by decide)) (by decide +kernel) (s_var (pv 1)))) (ss_one (st_ret (s_and (s_isi rfl (T.mn "isinstance" (by decide)) rfl (T.mn "str" (by decide)) (by decide +kernel) (s_var (pv 0))) (s_one (s_cmp (o_eq hu) (s_var (pv 0)) (s_var (pv 1)) (nomark _)))))) ss_nil)
  (ss_cons (st_if (t_of_w (w_and (t_truth (s_isi rfl (T.mn "isinstance" (by decide)) rfl (T.mn "tuple" (by decide)) (by decide +kernel) (s_var (pv 1)))) (w_and1 (t_not (t_truth (s_isi rfl (T.mn "isinstance" (by decide)) rfl (T.mn "tuple" (by decide)) (by decide +kernel) (s_var (pv 0)))))))) (ss_one (st_ret s_bl)) ss_nil)
  (ss_cons (st_if (t_of_w (w_and (t_truth (s_isi rfl (T.mn "isinstance" (by decide)) rfl (T.mn "list" (by decide)) (by decide +kernel) (s_var (pv 1)))) (w_and1 (t_not (t_truth (s_isi rfl (T.mn "isinstance" (by decide)) rfl (T.mn "list" (by decide)) (by decide +kernel) (s_var (pv 0)))))))) (ss_one (st_ret s_bl)) ss_nil)
  (ss_cons (st_if (t_cmp (o_ne hu) (s_callB c_len rfl (T.mn "len" (by decide)) (by decide +kernel) (s_acons (s_var (pv 0)) s_anil)) (s_callB c_len rfl (T.mn "len" (by decide)) (by decide +kernel) (s_acons (s_var (pv 1)) s_anil)) (nomark _)) (ss_one (st_ret s_bl)) ss_nil)
  (ss_one (st_ret (s_callB (c_all rfl) rfl (T.mn "all" (by decide)) (by decide +kernel) (s_acons (s_lc (own := [("_law_at", 2)]) rfl rfl sc__law_equal.nd (si_range1 rfl (T.mn "range" (by decide)) (s_acons (s_callB c_len rfl (T.mn "len" (by decide)) (by decide +kernel) (s_acons (s_var (pv 1)) s_anil)) s_anil)) (blkOk_by (N := ["_law_actual", "_law_due", "_law_at"]) (sc := defScope (top 48)) (own := [("_law_at", 2)]) (by decide +kernel)) (gf_name (fun s H C cl fp => pg_name (i := 2) sc__law_equal.nd rfl (.inl rfl)) (by decide)) tf_nil (fun s H C cl fp => (s_call fs__law_equal hr (by first | decide | omega) rfl rfl (s_acons (s_ix (s_var (pv 0)) (s_var (pv 2))) (s_acons (s_ix (s_var (pv 1)) (s_var (pv 2))) s_anil)) (hml := (la_cons (la_cons la_nil)))))) s_anil)))))))))))
  exact q 10
theorem sc_less : FnScope ["a", "b"] ["a", "b"] (defScope (top 12)) := ⟨rfl, rfl, rfl, by decide +kernel, rfl, by decide +kernel, by decide +kernel⟩
theorem sim_less {f : Addr} {fd : FuncData} (F : FnP K "less" (top 12) f fd) (hm : mg "less" = some (.ref f)) (T : Tx tab K mg) : FS P w K mg base "less" 1 2 F_less := by
  refine fs_of (n := 2) (m := M_less) F sc_less rfl hm (F.bindsN fun _ _ _ _ _ _ us hl => match us, hl with | [_, _], _ => rfl) fun cdv A outer s H E hr => ?_
  have hu := hr.units
  have T_fok : XFs K tab.fok := T.fokE
  exact (ss_one (st_ret (s_cmp o_lt (s_bin o_mul (s_ix (s_var (pv 0)) s_int) (s_ix (s_var (pv 1)) s_int)) (s_bin o_mul (s_ix (s_var (pv 0)) s_int) (s_ix (s_var (pv 1)) s_int)) (nomark _))))
theorem sc_better : FnScope ["first", "second"] ["first", "second"] (defScope (top 39)) := ⟨rfl, rfl, rfl, by decide +kernel, rfl, by decide +kernel, by decide +kernel⟩
theorem sim_better {f : Addr} {fd : FuncData} (F : FnP K "better" (top 39) f fd) (hm : mg "better" = some (.ref f)) (T : Tx tab K mg) (fs_less : FS P w K mg base "less" 1 2 F_less) : FS P w K mg base "better" 2 2 F_better := by
  refine fs_of (n := 2) (m := M_better) F sc_better rfl hm (F.bindsN fun _ _ _ _ _ _ us hl => match us, hl with | [_, _], _ => rfl) fun cdv A outer s H E hr => ?_
  have hu := hr.units
  have T_fok : XFs K tab.fok := T.fokE
  exact (ss_cons (st_if (t_of_w (w_or (t_cmp o_is (s_var (pv 0)) s_non (nomark _)) (w_or1 (t_truth (s_call fs_less hr (by first | decide | omega) rfl rfl (s_acons (s_ix (s_var (pv 0)) s_int) (s_acons (s_ix (s_var (pv 1)) s_int) s_anil)) (hml := (la_cons (la_cons la_nil)))))))) (ss_one (st_ret (s_var (pv 1)))) ss_nil)
  (ss_cons (st_if (t_of_w (w_or (t_truth (s_call fs_less hr (by first | decide | omega) rfl rfl (s_acons (s_ix (s_var (pv 1)) s_int) (s_acons (s_ix (s_var (pv 0)) s_int) s_anil)) (hml := (la_cons (la_cons la_nil))))) (w_or1 (t_cmp (o_leX (hu65 hr)) (s_ix (s_var (pv 0)) s_int) (s_ix (s_var (pv 1)) s_int) (nomark _))))) (ss_one (st_ret (s_var (pv 0)))) ss_nil)
  (ss_one (st_ret (s_var (pv 1))))))
theorem sc_reduced : FnScope ["n", "d", "common"] ["n", "d"] (defScope (top 9)) := ⟨rfl, rfl, rfl, by decide +kernel, rfl, by decide +kernel, by decide +kernel⟩
theorem sim_reduced {f : Addr} {fd : FuncData} (F : FnP K "reduced" (top 9) f fd) (hm : mg "reduced" = some (.ref f)) (T : Tx tab K mg) : FS P w K mg base "reduced" 1 2 F_reduced := by
  refine fs_of (n := 3) (m := M_reduced) F sc_reduced rfl hm (F.bindsN fun _ _ _ _ _ _ us hl => match us, hl with | [_, _], _ => rfl) fun cdv A outer s H E hr => ?_
  have hu := hr.units
  have T_fok : XFs K tab.fok := T.fokE
  exact (ss_cons (st_set (i := 2) sc_reduced.nd rfl (.inl rfl) (s_callF c_gcd rfl (T.mb "gcd" "math.gcd" (by decide)) (s_acons (s_var (pv 0)) (s_acons (s_var (pv 1)) s_anil))))
  (ss_one (st_ret (s_tup (s_acons (s_bin o_fdiv (s_var (pv 0)) (s_var (pv 2))) (s_acons (s_bin o_fdiv (s_var (pv 1)) (s_var (pv 2))) s_anil))))))
theorem sc_times : FnScope ["a", "b"] ["a", "b"] (defScope (top 11)) := ⟨rfl, rfl, rfl, by decide +kernel, rfl, by decide +kernel, by decide +kernel⟩
theorem sim_times {f : Addr} {fd : FuncData} (F : FnP K "times" (top 11) f fd) (hm : mg "times" = some (.ref f)) (T : Tx tab K mg) (fs_reduced : FS P w K mg base "reduced" 1 2 F_reduced) : FS P w K mg base "times" 2 2 F_times := by
  refine fs_of (n := 2) (m := M_times) F sc_times rfl hm (F.bindsN fun _ _ _ _ _ _ us hl => match us, hl with | [_, _], _ => rfl) fun cdv A outer s H E hr => ?_
  have hu := hr.units
  have T_fok : XFs K tab.fok := T.fokE
  exact (ss_one (st_ret (s_call fs_reduced hr (by first | decide | omega) rfl rfl (s_acons (s_bin o_mul (s_ix (s_var (pv 0)) s_int) (s_ix (s_var (pv 1)) s_int)) (s_acons (s_bin o_mul (s_ix (s_var (pv 0)) s_int) (s_ix (s_var (pv 1)) s_int)) s_anil)) (hml := (la_cons (la_cons la_nil))))))
theorem sc_is_letter : FnScope ["symbol"] ["symbol"] (defScope (top 30)) := ⟨rfl, rfl, rfl, by decide +kernel, rfl, by decide +kernel, by decide +kernel⟩
theorem sim_is_letter {f : Addr} {fd : FuncData} (F : FnP K "is_letter" (top 30) f fd) (hm : mg "is_letter" = some (.ref f)) (T : Tx tab K mg) : FS P w K mg base "is_letter" 1 1 F_is_letter := by
  refine fs_of (n := 1) (m := M_is_letter) F sc_is_letter rfl hm (F.bindsN fun _ _ _ _ _ _ us hl => match us, hl with | [_], _ => rfl) fun cdv A outer s H E hr => ?_
  have hu := hr.units
  have T_fok : XFs K tab.fok := T.fokE
  exact (ss_one (st_ret (s_and (s_isi rfl (T.mn "isinstance" (by decide)) rfl (T.mn "str" (by decide)) (by decide +kernel) (s_var (pv 0))) (s_and (s_cmp (o_eq hu) (s_callB c_len rfl (T.mn "len" (by decide)) (by decide +kernel) (s_acons (s_var (pv 0)) s_anil)) s_int (nomark _)) (s_one (s_cmp o_inS (s_var (pv 0)) (s_con rfl (T.con "LETTERS" _ (List.mem_of_getElem? (i := 0) rfl))) (by first | rfl | with_unfolding_all rfl)))))))
theorem sc_Best_tree : FnScope ["self", "symbol", "start", "end", "best", "at", "row", "chance", "symbols"] ["self", "symbol", "start", "end"] (defScope (inClass (top 38) 1)) := ⟨rfl, rfl, rfl, by decide +kernel, rfl, by decide +kernel, by decide +kernel⟩
theorem sc_Best_row : FnScope ["self", "symbols", "start", "end", "best", "middle", "first", "other"] ["self", "symbols", "start", "end"] (defScope (inClass (top 38) 2)) := ⟨rfl, rfl, rfl, by decide +kernel, rfl, by decide +kernel, by decide +kernel⟩
theorem sim_Best_tree {fd_Best_tree : FuncData} (D_Best_tree : FunD K "tree" "Best.tree" (defArgs (inClass (top 38) 1)) (defBody (inClass (top 38) 1)) (defScope (inClass (top 38) 1)) [] [] (He.ma K (He.ga K "Best") "tree") fd_Best_tree) {fd_Best_row : FuncData} (D_Best_row : FunD K "row" "Best.row" (defArgs (inClass (top 38) 2)) (defBody (inClass (top 38) 2)) (defScope (inClass (top 38) 2)) [] [] (He.ma K (He.ga K "Best") "row") fd_Best_row) (T : Tx tab K mg) (fs_better : FS P w K mg base "better" 2 2 F_better) (fs_times : FS P w K mg base "times" 2 2 F_times) (fs_is_letter : FS P w K mg base "is_letter" 1 1 F_is_letter) : FM P w K mg base "Best" "tree" 63 4 F_Best_tree ∧ FM P w K mg base "Best" "row" 63 4 F_Best_row := by
  have hb_Best_tree : Binds K fd_Best_tree ["self", "symbol", "start", "end"] [] := D_Best_tree.bindsN fun _ _ _ _ _ _ us hl => match us, hl with | [_, _, _, _], _ => rfl
  have hb_Best_row : Binds K fd_Best_row ["self", "symbols", "start", "end"] [] := D_Best_row.bindsN fun _ _ _ _ _ _ us hl => match us, hl with | [_, _, _, _], _ => rfl
  have q : ∀ m, FM P w K mg base "Best" "tree" (3 + m) 4 (F_Best_tree_r m) ∧ FM P w K mg base "Best" "row" (3 + m) 4 (F_Best_row_r m) := fun m => by
    induction m with
    | zero => exact ⟨fm_stuck D_Best_tree T (by simp [tab]) (by simp [tab]) hb_Best_tree, fm_stuck D_Best_row T (by simp [tab]) (by simp [tab]) hb_Best_row⟩
    | succ m ih =>
      obtain ⟨fm_Best_tree, fm_Best_row⟩ := ih
      refine ⟨fm_of (n := 9) (b := M_Best_tree (F_Best_tree_r m) (F_Best_row_r m)) D_Best_tree sc_Best_tree rfl T (by simp [tab]) (by simp [tab]) hb_Best_tree fun cdv A outer s H E hr => ?_, fm_of (n := 8) (b := M_Best_row (F_Best_tree_r m) (F_Best_row_r m)) D_Best_row sc_Best_row rfl T (by simp [tab]) (by simp [tab]) hb_Best_row fun cdv A outer s H E hr => ?_⟩
      · have hr : Room (3 + m) _ := hr
        have hu := hr.units
        have T_fok : XFs K tab.fok := T.fokE
        exact (ss_cons (st_if (t_truth (s_call fs_is_letter hr (by first | decide | omega) rfl rfl (s_acons (s_var (pv 1)) s_anil) (hml := (la_cons la_nil)))) (ss_one (st_ret (s_if (t_cmp (o_eq hu) (s_slS (s_fld (T.okFE (by decide +kernel)) (s_var (pv 0))) (so_some (s_var (pv 2))) (so_some (s_var (pv 3)))) (s_var (pv 1)) (nomark _)) (s_tup (s_acons (s_con rfl (T.con "ONE" _ (List.mem_of_getElem? (i := 1) rfl))) (s_acons (s_lst s_anil) s_anil))) s_non))) ss_nil)
  (ss_cons (st_if (t_cmp (o_dnin (hu65 hr)) (s_tup (s_acons (s_var (pv 1)) (s_acons (s_var (pv 2)) (s_acons (s_var (pv 3)) s_anil)))) (s_fld (T.okFE (by decide +kernel)) (s_var (pv 0))) (by first | rfl | with_unfolding_all rfl)) (ss_cons (st_set (i := 4) sc_Best_tree.nd rfl (.inl rfl) s_non)
  (ss_cons (st_for (passes_of rfl) rfl (si_enumA rfl (T.mn "enumerate" (by decide)) (s_acons (s_ix (s_fld (T.okFE (by decide +kernel)) (s_var (pv 0))) (s_var (pv 1))) s_anil)) (sg_tup rfl (sgs_cons (sg_name (pg_name (i := 5) sc_Best_tree.nd rfl (.inl rfl))) (sgs_cons (sg_tup rfl (sgs_cons (sg_name (pg_name (i := 7) sc_Best_tree.nd rfl (.inl rfl))) (sgs_cons (sg_name (pg_name (i := 8) sc_Best_tree.nd rfl (.inl rfl))) sgs_nil))) sgs_nil))) (ss_cons (st_set (i := 6) sc_Best_tree.nd rfl (.inl rfl) (s_om fm_Best_row hr (by first | decide | omega) rfl (s_var (pv 0)) (s_acons (s_var (pv 8)) (s_acons (s_var (pv 2)) (s_acons (s_var (pv 3)) s_anil))) (la_cons (la_cons (la_cons la_nil)))))
  (ss_one (st_if (t_cmp o_isnot (s_var (pv 6)) s_non (nomark _)) (ss_one (st_set (i := 4) sc_Best_tree.nd rfl (.inl rfl) (s_call fs_better hr (by first | decide | omega) rfl rfl (s_acons (s_var (pv 4)) (s_acons (s_tup (s_acons (s_call fs_times hr (by first | decide | omega) rfl rfl (s_acons (s_var (pv 7)) (s_acons (s_ix (s_var (pv 6)) s_int) s_anil)) (hml := (la_cons (la_cons la_nil)))) (s_acons (s_bin o_add (s_lst (s_acons (s_tup (s_acons (s_var (pv 1)) (s_acons (s_var (pv 5)) s_anil))) s_anil)) (s_ix (s_var (pv 6)) s_int)) s_anil))) s_anil)) (hml := (la_cons (la_cons la_nil)))))) ss_nil))))
  (ss_one (st_put (p_dict (hu1 hu)) (s_fld (T.okFE (by decide +kernel)) (s_var (pv 0))) (s_tup (s_acons (s_var (pv 1)) (s_acons (s_var (pv 2)) (s_acons (s_var (pv 3)) s_anil)))) (s_var (pv 4)))))) ss_nil)
  (ss_one (st_ret (s_dget (hu1 hu) (s_fld (T.okFE (by decide +kernel)) (s_var (pv 0))) (s_tup (s_acons (s_var (pv 1)) (s_acons (s_var (pv 2)) (s_acons (s_var (pv 3)) s_anil)))))))))
      · have hr : Room (3 + m) _ := hr
        have hu := hr.units
        have T_fok : XFs K tab.fok := T.fokE
        exact (ss_cons (st_if (t_cmp (o_eq hu) (s_callB c_len rfl (T.mn "len" (by decide)) (by decide +kernel) (s_acons (s_var (pv 1)) s_anil)) s_int (nomark _)) (ss_one (st_ret (s_om fm_Best_tree hr (by first | decide | omega) rfl (s_var (pv 0)) (s_acons (s_ix (s_var (pv 1)) s_int) (s_acons (s_var (pv 2)) (s_acons (s_var (pv 3)) s_anil))) (la_cons (la_cons (la_cons la_nil)))))) ss_nil)
  (ss_cons (st_set (i := 4) sc_Best_row.nd rfl (.inl rfl) s_non)
  (ss_cons (st_for (passes_of rfl) rfl (si_range2 rfl (T.mn "range" (by decide)) (s_acons (s_bin o_add (s_var (pv 2)) s_int) (s_acons (s_bin o_add (s_bin o_sub (s_var (pv 3)) (s_callB c_len rfl (T.mn "len" (by decide)) (by decide +kernel) (s_acons (s_var (pv 1)) s_anil))) s_int) s_anil))) (sg_name (pg_name (i := 5) sc_Best_row.nd rfl (.inl rfl))) (ss_cons (st_set (i := 6) sc_Best_row.nd rfl (.inl rfl) (s_om fm_Best_tree hr (by first | decide | omega) rfl (s_var (pv 0)) (s_acons (s_ix (s_var (pv 1)) s_int) (s_acons (s_var (pv 2)) (s_acons (s_var (pv 5)) s_anil))) (la_cons (la_cons (la_cons la_nil)))))
  (ss_cons (st_set (i := 7) sc_Best_row.nd rfl (.inl rfl) (s_if (t_cmp o_is (s_var (pv 6)) s_non (nomark _)) s_non (s_om fm_Best_row hr (by first | decide | omega) rfl (s_var (pv 0)) (s_acons (s_sl (s_var (pv 1)) (so_some s_int) so_none) (s_acons (s_var (pv 5)) (s_acons (s_var (pv 3)) s_anil))) (la_cons (la_cons (la_cons la_nil))))))
  (ss_one (st_if (t_cmp o_isnot (s_var (pv 7)) s_non (nomark _)) (ss_one (st_set (i := 4) sc_Best_row.nd rfl (.inl rfl) (s_call fs_better hr (by first | decide | omega) rfl rfl (s_acons (s_var (pv 4)) (s_acons (s_tup (s_acons (s_call fs_times hr (by first | decide | omega) rfl rfl (s_acons (s_ix (s_var (pv 6)) s_int) (s_acons (s_ix (s_var (pv 7)) s_int) s_anil)) (hml := (la_cons (la_cons la_nil)))) (s_acons (s_bin o_add (s_ix (s_var (pv 6)) s_int) (s_ix (s_var (pv 7)) s_int)) s_anil))) s_anil)) (hml := (la_cons (la_cons la_nil)))))) ss_nil)))))
  (ss_one (st_ret (s_var (pv 4)))))))
  exact q 60
theorem sc_Best_init : FnScope ["self", "grammar", "word"] ["self", "grammar", "word"] (defScope (inClass (top 38) 0)) := ⟨rfl, rfl, rfl, by decide +kernel, rfl, by decide +kernel, by decide +kernel⟩
theorem sim_Best_init {fd : FuncData} (F : FunD K "__init__" "Best.__init__" (defArgs (inClass (top 38) 0)) (defBody (inClass (top 38) 0)) (defScope (inClass (top 38) 0)) [] [] (He.ma K (He.ga K "Best") "__init__") fd) (T : Tx tab K mg) : FI P w K mg base "Best" 1 3 [] F_Best_init := by
  refine fi_of (n := 3) (j := 3) (ps := ["self", "grammar", "word"]) (ks := []) (b := M_Best_init) F sc_Best_init rfl T (by decide) (by simp [tab]) rfl (fun _ _ _ _ _ _ us ws h1 h2 => match us, ws, h1, h2 with | [_, _, _], [], _, _ => rfl) fun cdv A outer s H E hr => ?_
  have hu := hr.units
  have T_fok : XFs K tab.fok := T.fokE
  exact (ss_cons (st_ost (T.okFE (by decide +kernel)) (s_var (pv 0)) (s_var (pv 1)))
  (ss_cons (st_ost (T.okFE (by decide +kernel)) (s_var (pv 0)) (s_var (pv 2)))
  (ss_one (st_ost (T.okFE (by decide +kernel)) (s_var (pv 0)) s_dnewT))))
theorem sc_check_word : FnScope ["word", "longest", "letter"] ["word", "longest"] (defScope (top 37)) := ⟨rfl, rfl, rfl, by decide +kernel, rfl, by decide +kernel, by decide +kernel⟩
theorem sim_check_word {f : Addr} {fd : FuncData} (F : FnP K "check_word" (top 37) f fd) (hm : mg "check_word" = some (.ref f)) (T : Tx tab K mg) (fs_is_letter : FS P w K mg base "is_letter" 1 1 F_is_letter) (xc_BadValue : XC P w K mg base "BadValue" 1 ["name"]) : FS P w K mg base "check_word" 3 2 F_check_word := by
  refine fs_of (n := 3) (m := M_check_word) F sc_check_word rfl hm (F.bindsN fun _ _ _ _ _ _ us hl => match us, hl with | [_, _], _ => rfl) fun cdv A outer s H E hr => ?_
  have hu := hr.units
  have T_fok : XFs K tab.fok := T.fokE
  exact (ss_one (st_if (t_of_w (w_or (t_not (t_truth (s_isi rfl (T.mn "isinstance" (by decide)) rfl (T.mn "str" (by decide)) (by decide +kernel) (s_var (pv 0))))) (w_or (t_cmp o_gt (s_callB c_len rfl (T.mn "len" (by decide)) (by decide +kernel) (s_acons (s_var (pv 0)) s_anil)) (s_var (pv 1)) (nomark _)) (w_or1 (t_not (t_truth (s_callB (c_all rfl) rfl (T.mn "all" (by decide)) (by decide +kernel) (s_acons (s_lc (own := [("letter", 2)]) rfl rfl sc_check_word.nd (si_str (s_var (pv 0))) (blkOk_by (N := ["word", "longest", "letter"]) (sc := defScope (top 37)) (own := [("letter", 2)]) (by decide +kernel)) (gf_name (fun s H C cl fp => pg_name (i := 2) sc_check_word.nd rfl (.inl rfl)) (by decide)) tf_nil (fun s H C cl fp => (s_call fs_is_letter hr (by first | decide | omega) rfl rfl (s_acons (s_var (pv 2)) s_anil) (hml := (la_cons la_nil))))) s_anil)))))))) (ss_one (st_raise rfl xc_BadValue hr (by first | decide | omega) rfl (s_acons s_str s_anil))) ss_nil))
theorem sc_plus : FnScope ["a", "b"] ["a", "b"] (defScope (top 10)) := ⟨rfl, rfl, rfl, by decide +kernel, rfl, by decide +kernel, by decide +kernel⟩
theorem sim_plus {f : Addr} {fd : FuncData} (F : FnP K "plus" (top 10) f fd) (hm : mg "plus" = some (.ref f)) (T : Tx tab K mg) (fs_reduced : FS P w K mg base "reduced" 1 2 F_reduced) : FS P w K mg base "plus" 2 2 F_plus := by
  refine fs_of (n := 2) (m := M_plus) F sc_plus rfl hm (F.bindsN fun _ _ _ _ _ _ us hl => match us, hl with | [_, _], _ => rfl) fun cdv A outer s H E hr => ?_
  have hu := hr.units
  have T_fok : XFs K tab.fok := T.fokE
  exact (ss_one (st_ret (s_call fs_reduced hr (by first | decide | omega) rfl rfl (s_acons (s_bin o_add (s_bin o_mul (s_ix (s_var (pv 0)) s_int) (s_ix (s_var (pv 1)) s_int)) (s_bin o_mul (s_ix (s_var (pv 0)) s_int) (s_ix (s_var (pv 1)) s_int))) (s_acons (s_bin o_mul (s_ix (s_var (pv 0)) s_int) (s_ix (s_var (pv 1)) s_int)) s_anil)) (hml := (la_cons (la_cons la_nil))))))
theorem sc_is_integer : FnScope ["value"] ["value"] (defScope (top 15)) := ⟨rfl, rfl, rfl, by decide +kernel, rfl, by decide +kernel, by decide +kernel⟩
theorem sim_is_integer {f : Addr} {fd : FuncData} (F : FnP K "is_integer" (top 15) f fd) (hm : mg "is_integer" = some (.ref f)) (T : Tx tab K mg) : FS P w K mg base "is_integer" 1 1 F_is_integer := by
  refine fs_of (n := 1) (m := M_is_integer) F sc_is_integer rfl hm (F.bindsN fun _ _ _ _ _ _ us hl => match us, hl with | [_], _ => rfl) fun cdv A outer s H E hr => ?_
  have hu := hr.units
  have T_fok : XFs K tab.fok := T.fokE
  exact (ss_one (st_ret (s_and (s_isi rfl (T.mn "isinstance" (by decide)) rfl (T.mn "int" (by decide)) (by decide +kernel) (s_var (pv 0))) (s_one (s_not (s_isi rfl (T.mn "isinstance" (by decide)) rfl (T.mn "bool" (by decide)) (by decide +kernel) (s_var (pv 0))))))))
theorem sc_is_index : FnScope ["value", "many"] ["value", "many"] (defScope (top 17)) := ⟨rfl, rfl, rfl, by decide +kernel, rfl, by decide +kernel, by decide +kernel⟩
theorem sim_is_index {f : Addr} {fd : FuncData} (F : FnP K "is_index" (top 17) f fd) (hm : mg "is_index" = some (.ref f)) (T : Tx tab K mg) (fs_is_integer : FS P w K mg base "is_integer" 1 1 F_is_integer) : FS P w K mg base "is_index" 2 2 F_is_index := by
  refine fs_of (n := 2) (m := M_is_index) F sc_is_index rfl hm (F.bindsN fun _ _ _ _ _ _ us hl => match us, hl with | [_, _], _ => rfl) fun cdv A outer s H E hr => ?_
  have hu := hr.units
  have T_fok : XFs K tab.fok := T.fokE
  exact (ss_one (st_ret (s_and (s_call (FS.ali fs_is_integer (T.mc "is_integer" (by decide)) (T.ali "is_integer_graphs" "is_integer" (by decide))) hr (by first | decide | omega) rfl rfl (s_acons (s_var (pv 0)) s_anil) (hml := (la_cons la_nil))) (s_one (s_chain o_le o_lt s_int (s_var (pv 0)) (s_var (pv 1)))))))
theorem sc_is_integer_rationals : FnScope ["x"] ["x"] (defScope (top 6)) := ⟨rfl, rfl, rfl, by decide +kernel, rfl, by decide +kernel, by decide +kernel⟩
theorem sim_is_integer_rationals {f : Addr} {fd : FuncData} (F : FnP K "is_integer" (top 6) f fd) (hm : mg "is_integer_rationals" = some (.ref f)) (T : Tx tab K mg) : FS P w K mg base "is_integer_rationals" 1 1 F_is_integer := by
  refine fs_as (n := 1) (m := M_is_integer) F sc_is_integer_rationals rfl hm (F.bindsN fun _ _ _ _ _ _ us hl => match us, hl with | [_], _ => rfl) fun cdv A outer s H E hr => ?_
  have hu := hr.units
  have T_fok : XFs K tab.fok := T.fokE
  exact (ss_one (st_ret (s_and (s_isi rfl (T.mn "isinstance" (by decide)) rfl (T.mn "int" (by decide)) (by decide +kernel) (s_var (pv 0))) (s_one (s_not (s_isi rfl (T.mn "isinstance" (by decide)) rfl (T.mn "bool" (by decide)) (by decide +kernel) (s_var (pv 0))))))))
theorem sc_is_rational : FnScope ["x", "n", "d"] ["x"] (defScope (top 8)) := ⟨rfl, rfl, rfl, by decide +kernel, rfl, by decide +kernel, by decide +kernel⟩
theorem sim_is_rational {f : Addr} {fd : FuncData} (F : FnP K "is_rational" (top 8) f fd) (hm : mg "is_rational" = some (.ref f)) (T : Tx tab K mg) (fs_is_integer_rationals : FS P w K mg base "is_integer_rationals" 1 1 F_is_integer) : FS P w K mg base "is_rational" 2 1 F_is_rational := by
  refine fs_of (n := 3) (m := M_is_rational) F sc_is_rational rfl hm (F.bindsN fun _ _ _ _ _ _ us hl => match us, hl with | [_], _ => rfl) fun cdv A outer s H E hr => ?_
  have hu := hr.units
  have T_fok : XFs K tab.fok := T.fokE
  exact (ss_cons (st_if (t_of_w (w_or (t_not (t_truth (s_isi rfl (T.mn "isinstance" (by decide)) rfl (T.mn "tuple" (by decide)) (by decide +kernel) (s_var (pv 0))))) (w_or1 (t_cmp (o_ne hu) (s_callB c_len rfl (T.mn "len" (by decide)) (by decide +kernel) (s_acons (s_var (pv 0)) s_anil)) s_int (nomark _))))) (ss_one (st_ret s_bl)) ss_nil)
  (ss_cons (st_asg (s_var (pv 0)) (sg_tup rfl (sgs_cons (sg_name (pg_name (i := 1) sc_is_rational.nd rfl (.inl rfl))) (sgs_cons (sg_name (pg_name (i := 2) sc_is_rational.nd rfl (.inl rfl))) sgs_nil))))
  (ss_one (st_ret (s_and (s_call fs_is_integer_rationals hr (by first | decide | omega) rfl rfl (s_acons (s_var (pv 1)) s_anil) (hml := (la_cons la_nil))) (s_and (s_call fs_is_integer_rationals hr (by first | decide | omega) rfl rfl (s_acons (s_var (pv 2)) s_anil) (hml := (la_cons la_nil))) (s_and (s_cmp o_gt (s_var (pv 2)) s_int (nomark _)) (s_one (s_cmp (o_eq hu) (s_callF c_gcd rfl (T.mb "gcd" "math.gcd" (by decide)) (s_acons (s_var (pv 1)) (s_acons (s_var (pv 2)) s_anil))) s_int (nomark _))))))))))
theorem sc_is_chance : FnScope ["value"] ["value"] (defScope (top 18)) := ⟨rfl, rfl, rfl, by decide +kernel, rfl, by decide +kernel, by decide +kernel⟩
theorem sim_is_chance {f : Addr} {fd : FuncData} (F : FnP K "is_chance" (top 18) f fd) (hm : mg "is_chance" = some (.ref f)) (T : Tx tab K mg) (fs_is_rational : FS P w K mg base "is_rational" 2 1 F_is_rational) : FS P w K mg base "is_chance" 3 1 F_is_chance := by
  refine fs_of (n := 1) (m := M_is_chance) F sc_is_chance rfl hm (F.bindsN fun _ _ _ _ _ _ us hl => match us, hl with | [_], _ => rfl) fun cdv A outer s H E hr => ?_
  have hu := hr.units
  have T_fok : XFs K tab.fok := T.fokE
  exact (ss_one (st_ret (s_and (s_call fs_is_rational hr (by first | decide | omega) rfl rfl (s_acons (s_var (pv 0)) s_anil) (hml := (la_cons la_nil))) (s_and (s_cmp o_gt (s_ix (s_var (pv 0)) s_int) s_int (nomark _)) (s_one (s_cmp o_le (s_ix (s_var (pv 0)) s_int) (s_con rfl (T.con "MOST_DENOMINATOR" _ (List.mem_of_getElem? (i := 8) rfl))) (nomark _)))))))
theorem sc_is_rule : FnScope ["rule", "many", "symbol"] ["rule", "many"] (defScope (top 31)) := ⟨rfl, rfl, rfl, by decide +kernel, rfl, by decide +kernel, by decide +kernel⟩
theorem sim_is_rule {f : Addr} {fd : FuncData} (F : FnP K "is_rule" (top 31) f fd) (hm : mg "is_rule" = some (.ref f)) (T : Tx tab K mg) (fs_is_letter : FS P w K mg base "is_letter" 1 1 F_is_letter) (fs_is_index : FS P w K mg base "is_index" 2 2 F_is_index) (fs_is_chance : FS P w K mg base "is_chance" 3 1 F_is_chance) : FS P w K mg base "is_rule" 4 2 F_is_rule := by
  refine fs_of (n := 3) (m := M_is_rule) F sc_is_rule rfl hm (F.bindsN fun _ _ _ _ _ _ us hl => match us, hl with | [_, _], _ => rfl) fun cdv A outer s H E hr => ?_
  have hu := hr.units
  have T_fok : XFs K tab.fok := T.fokE
  exact (ss_cons (st_if (t_of_w (w_or (t_not (t_truth (s_isi rfl (T.mn "isinstance" (by decide)) rfl (T.mn "tuple" (by decide)) (by decide +kernel) (s_var (pv 0))))) (w_or (t_cmp (o_ne hu) (s_callB c_len rfl (T.mn "len" (by decide)) (by decide +kernel) (s_acons (s_var (pv 0)) s_anil)) s_int (nomark _)) (w_or1 (t_not (t_truth (s_call fs_is_chance hr (by first | decide | omega) rfl rfl (s_acons (s_ix (s_var (pv 0)) s_int) s_anil) (hml := (la_cons la_nil))))))))) (ss_one (st_ret s_bl)) ss_nil)
  (ss_cons (st_if (t_of_w (w_or (t_not (t_truth (s_isi rfl (T.mn "isinstance" (by decide)) rfl (T.mn "tuple" (by decide)) (by decide +kernel) (s_ix (s_var (pv 0)) s_int)))) (w_or1 (t_cmp o_gt (s_callB c_len rfl (T.mn "len" (by decide)) (by decide +kernel) (s_acons (s_ix (s_var (pv 0)) s_int) s_anil)) (s_con rfl (T.con "MOST_SYMBOLS" _ (List.mem_of_getElem? (i := 7) rfl))) (nomark _))))) (ss_one (st_ret s_bl)) ss_nil)
  (ss_one (st_ret (s_callB (c_all rfl) rfl (T.mn "all" (by decide)) (by decide +kernel) (s_acons (s_lc (own := [("symbol", 2)]) rfl rfl sc_is_rule.nd (si_seq (s_ix (s_var (pv 0)) s_int)) (blkOk_by (N := ["rule", "many", "symbol"]) (sc := defScope (top 31)) (own := [("symbol", 2)]) (by decide +kernel)) (gf_name (fun s H C cl fp => pg_name (i := 2) sc_is_rule.nd rfl (.inl rfl)) (by decide)) tf_nil (fun s H C cl fp => (s_or (s_call fs_is_letter hr (by first | decide | omega) rfl rfl (s_acons (s_var (pv 2)) s_anil) (hml := (la_cons la_nil))) (s_one (s_call fs_is_index hr (by first | decide | omega) rfl rfl (s_acons (s_var (pv 2)) (s_acons (s_var (pv 1)) s_anil)) (hml := (la_cons (la_cons la_nil)))))))) s_anil))))))
theorem sc_is_rules : FnScope ["rules", "many", "total", "chance", "symbols", "rule"] ["rules", "many"] (defScope (top 32)) := ⟨rfl, rfl, rfl, by decide +kernel, rfl, by decide +kernel, by decide +kernel⟩
theorem sim_is_rules {f : Addr} {fd : FuncData} (F : FnP K "is_rules" (top 32) f fd) (hm : mg "is_rules" = some (.ref f)) (T : Tx tab K mg) (fs_plus : FS P w K mg base "plus" 2 2 F_plus) (fs_is_rule : FS P w K mg base "is_rule" 4 2 F_is_rule) : FS P w K mg base "is_rules" 5 2 F_is_rules := by
  refine fs_of (n := 6) (m := M_is_rules) F sc_is_rules rfl hm (F.bindsN fun _ _ _ _ _ _ us hl => match us, hl with | [_, _], _ => rfl) fun cdv A outer s H E hr => ?_
  have hu := hr.units
  have T_fok : XFs K tab.fok := T.fokE
  exact (ss_cons (st_if (t_of_w (w_or (t_not (t_truth (s_isi rfl (T.mn "isinstance" (by decide)) rfl (T.mn "tuple" (by decide)) (by decide +kernel) (s_var (pv 0))))) (w_or1 (t_not (t_chain o_le o_le s_int (s_callB c_len rfl (T.mn "len" (by decide)) (by decide +kernel) (s_acons (s_var (pv 0)) s_anil)) (s_con rfl (T.con "MOST_RULES" _ (List.mem_of_getElem? (i := 9) rfl)))))))) (ss_one (st_ret s_bl)) ss_nil)
  (ss_cons (st_if (t_not (t_truth (s_callB (c_all rfl) rfl (T.mn "all" (by decide)) (by decide +kernel) (s_acons (s_lc (own := [("rule", 5)]) rfl rfl sc_is_rules.nd (si_seq (s_var (pv 0))) (blkOk_by (N := ["rules", "many", "total", "chance", "symbols", "rule"]) (sc := defScope (top 32)) (own := [("rule", 5)]) (by decide +kernel)) (gf_name (fun s H C cl fp => pg_name (i := 5) sc_is_rules.nd rfl (.inl rfl)) (by decide)) tf_nil (fun s H C cl fp => (s_call fs_is_rule hr (by first | decide | omega) rfl rfl (s_acons (s_var (pv 5)) (s_acons (s_var (pv 1)) s_anil)) (hml := (la_cons (la_cons la_nil)))))) s_anil)))) (ss_one (st_ret s_bl)) ss_nil)
  (ss_cons (st_set (i := 2) sc_is_rules.nd rfl (.inl rfl) (s_con rfl (T.con "ZERO" _ (List.mem_of_getElem? (i := 6) rfl))))
  (ss_cons (st_for (passes_of rfl) rfl (si_seq (s_var (pv 0))) (sg_tup rfl (sgs_cons (sg_name (pg_name (i := 3) sc_is_rules.nd rfl (.inl rfl))) (sgs_cons (sg_name (pg_name (i := 4) sc_is_rules.nd rfl (.inl rfl))) sgs_nil))) (ss_one (st_set (i := 2) sc_is_rules.nd rfl (.inl rfl) (s_call fs_plus hr (by first | decide | omega) rfl rfl (s_acons (s_var (pv 2)) (s_acons (s_var (pv 3)) s_anil)) (hml := (la_cons (la_cons la_nil)))))))
  (ss_one (st_ret (s_and (s_cmp (o_eq hu) (s_var (pv 2)) (s_con rfl (T.con "ONE" _ (List.mem_of_getElem? (i := 1) rfl))) (nomark _)) (s_one (s_cmp o_le (s_callB (c_sum rfl) rfl (T.mn "sum" (by decide)) (by decide +kernel) (s_acons (s_lc (own := [("chance", 3), ("symbols", 4)]) rfl rfl sc_is_rules.nd (si_seq (s_var (pv 0))) (blkOk_by (N := ["rules", "many", "total", "chance", "symbols", "rule"]) (sc := defScope (top 32)) (own := [("chance", 3), ("symbols", 4)]) (by decide +kernel)) (gf_tup rfl (gsf_cons (gf_name (fun s H C cl fp => pg_name (i := 3) sc_is_rules.nd rfl (.inl rfl)) (by decide)) (gsf_cons (gf_name (fun s H C cl fp => pg_name (i := 4) sc_is_rules.nd rfl (.inl rfl)) (by decide)) gsf_nil))) tf_nil (fun s H C cl fp => (s_callB c_len rfl (T.mn "len" (by decide)) (by decide +kernel) (s_acons (s_var (pv 4)) s_anil)))) s_anil)) (s_con rfl (T.con "MOST_SYMBOLS_OF_ONE" _ (List.mem_of_getElem? (i := 5) rfl))) (nomark _))))))))))
theorem sc_is_grammar : FnScope ["value", "symbols", "rules", "rule"] ["value"] (defScope (top 33)) := ⟨rfl, rfl, rfl, by decide +kernel, rfl, by decide +kernel, by decide +kernel⟩
theorem sim_is_grammar {f : Addr} {fd : FuncData} (F : FnP K "is_grammar" (top 33) f fd) (hm : mg "is_grammar" = some (.ref f)) (T : Tx tab K mg) (fs_is_rules : FS P w K mg base "is_rules" 5 2 F_is_rules) : FS P w K mg base "is_grammar" 6 1 F_is_grammar := by
  refine fs_of (n := 4) (m := M_is_grammar) F sc_is_grammar rfl hm (F.bindsN fun _ _ _ _ _ _ us hl => match us, hl with | [_], _ => rfl) fun cdv A outer s H E hr => ?_
  have hu := hr.units
  have T_fok : XFs K tab.fok := T.fokE
  exact (ss_cons (st_if (t_of_w (w_or (t_not (t_truth (s_isi rfl (T.mn "isinstance" (by decide)) rfl (T.mn "tuple" (by decide)) (by decide +kernel) (s_var (pv 0))))) (w_or1 (t_not (t_chain o_le o_le s_int (s_callB c_len rfl (T.mn "len" (by decide)) (by decide +kernel) (s_acons (s_var (pv 0)) s_anil)) (s_con rfl (T.con "MOST_VARIABLES" _ (List.mem_of_getElem? (i := 10) rfl)))))))) (ss_one (st_ret s_bl)) ss_nil)
  (ss_cons (st_if (t_not (t_truth (s_callB (c_all rfl) rfl (T.mn "all" (by decide)) (by decide +kernel) (s_acons (s_lc (own := [("rules", 2)]) rfl rfl sc_is_grammar.nd (si_seq (s_var (pv 0))) (blkOk_by (N := ["value", "symbols", "rules", "rule"]) (sc := defScope (top 33)) (own := [("rules", 2)]) (by decide +kernel)) (gf_name (fun s H C cl fp => pg_name (i := 2) sc_is_grammar.nd rfl (.inl rfl)) (by decide)) tf_nil (fun s H C cl fp => (s_call fs_is_rules hr (by first | decide | omega) rfl rfl (s_acons (s_var (pv 2)) (s_acons (s_callB c_len rfl (T.mn "len" (by decide)) (by decide +kernel) (s_acons (s_var (pv 0)) s_anil)) s_anil)) (hml := (la_cons (la_cons la_nil)))))) s_anil)))) (ss_one (st_ret s_bl)) ss_nil)
  (ss_cons (st_if (t_cmp o_gt (s_callB (c_sum rfl) rfl (T.mn "sum" (by decide)) (by decide +kernel) (s_acons (s_lc (own := [("rules", 2)]) rfl rfl sc_is_grammar.nd (si_seq (s_var (pv 0))) (blkOk_by (N := ["value", "symbols", "rules", "rule"]) (sc := defScope (top 33)) (own := [("rules", 2)]) (by decide +kernel)) (gf_name (fun s H C cl fp => pg_name (i := 2) sc_is_grammar.nd rfl (.inl rfl)) (by decide)) tf_nil (fun s H C cl fp => (s_callB c_len rfl (T.mn "len" (by decide)) (by decide +kernel) (s_acons (s_var (pv 2)) s_anil)))) s_anil)) (s_con rfl (T.con "MOST_RULES_IN_ALL" _ (List.mem_of_getElem? (i := 4) rfl))) (nomark _)) (ss_one (st_ret s_bl)) ss_nil)
  (ss_cons (st_setLc2 (i := 1) (own := [("rules", 2), ("rule", 3)]) rfl (by decide) rfl sc_is_grammar.nd rfl rfl (si_seq (s_var (pv 0))) (blkOk_by (N := ["value", "symbols", "rules", "rule"]) (sc := defScope (top 33)) (own := [("rules", 2), ("rule", 3)]) (by decide +kernel)) (gf_name (fun s H C cl fp => pg_name (i := 2) sc_is_grammar.nd rfl (.inl rfl)) (by decide)) tf_nil (fun s H C cl fp => (si_seq (s_var (pv 2)))) (gf_name (fun s H C cl fp => pg_name (i := 3) sc_is_grammar.nd rfl (.inl rfl)) (by decide)) tf_nil (fun s H C cl fp => (s_callB c_len rfl (T.mn "len" (by decide)) (by decide +kernel) (s_acons (s_ix (s_var (pv 3)) s_int) s_anil))))
  (ss_one (st_ret (s_cmp o_le (s_bin o_add (s_bin o_mul s_int (s_callB c_len rfl (T.mn "len" (by decide)) (by decide +kernel) (s_acons (s_var (pv 0)) s_anil))) (s_callB (c_sum rfl) rfl (T.mn "sum" (by decide)) (by decide +kernel) (s_acons (s_var (pv 1)) s_anil))) (s_con rfl (T.con "MOST_POINTS" _ (List.mem_of_getElem? (i := 3) rfl))) (nomark _))))))))
theorem sc_check_grammar : FnScope ["grammar"] ["grammar"] (defScope (top 34)) := ⟨rfl, rfl, rfl, by decide +kernel, rfl, by decide +kernel, by decide +kernel⟩
theorem sim_check_grammar {f : Addr} {fd : FuncData} (F : FnP K "check_grammar" (top 34) f fd) (hm : mg "check_grammar" = some (.ref f)) (T : Tx tab K mg) (fs_is_grammar : FS P w K mg base "is_grammar" 6 1 F_is_grammar) (xc_BadValue : XC P w K mg base "BadValue" 1 ["name"]) : FS P w K mg base "check_grammar" 7 1 F_check_grammar := by
  refine fs_of (n := 1) (m := M_check_grammar) F sc_check_grammar rfl hm (F.bindsN fun _ _ _ _ _ _ us hl => match us, hl with | [_], _ => rfl) fun cdv A outer s H E hr => ?_
  have hu := hr.units
  have T_fok : XFs K tab.fok := T.fokE
  exact (ss_one (st_if (t_not (t_truth (s_call fs_is_grammar hr (by first | decide | omega) rfl rfl (s_acons (s_var (pv 0)) s_anil) (hml := (la_cons la_nil))))) (ss_one (st_raise rfl xc_BadValue hr (by first | decide | omega) rfl (s_acons s_str s_anil))) ss_nil))
theorem sc_is_plain : FnScope ["grammar", "rules", "chance", "symbols"] ["grammar"] (defScope (top 35)) := ⟨rfl, rfl, rfl, by decide +kernel, rfl, by decide +kernel, by decide +kernel⟩
theorem sim_is_plain {f : Addr} {fd : FuncData} (F : FnP K "is_plain" (top 35) f fd) (hm : mg "is_plain" = some (.ref f)) (T : Tx tab K mg) (fs_is_letter : FS P w K mg base "is_letter" 1 1 F_is_letter) (fs_check_grammar : FS P w K mg base "check_grammar" 7 1 F_check_grammar) : FS P w K mg base "is_plain" 8 1 F_is_plain := by
  refine fs_of (n := 4) (m := M_is_plain) F sc_is_plain rfl hm (F.bindsN fun _ _ _ _ _ _ us hl => match us, hl with | [_], _ => rfl) fun cdv A outer s H E hr => ?_
  have hu := hr.units
  have T_fok : XFs K tab.fok := T.fokE
  exact (ss_cons (st_expr (s_call fs_check_grammar hr (by first | decide | omega) rfl rfl (s_acons (s_var (pv 0)) s_anil) (hml := (la_cons la_nil))))
  (ss_cons (st_for (passes_of rfl) rfl (si_seq (s_var (pv 0))) (sg_name (pg_name (i := 1) sc_is_plain.nd rfl (.inl rfl))) (ss_one (st_for (passes_of rfl) rfl (si_seq (s_var (pv 1))) (sg_tup rfl (sgs_cons (sg_name (pg_name (i := 2) sc_is_plain.nd rfl (.inl rfl))) (sgs_cons (sg_name (pg_name (i := 3) sc_is_plain.nd rfl (.inl rfl))) sgs_nil))) (ss_one (st_if (t_of_w (w_or (t_cmp (o_eq hu) (s_callB c_len rfl (T.mn "len" (by decide)) (by decide +kernel) (s_acons (s_var (pv 3)) s_anil)) s_int (nomark _)) (w_or1 (t_of_w (w_and (t_cmp (o_eq hu) (s_callB c_len rfl (T.mn "len" (by decide)) (by decide +kernel) (s_acons (s_var (pv 3)) s_anil)) s_int (nomark _)) (w_and1 (t_not (t_truth (s_call fs_is_letter hr (by first | decide | omega) rfl rfl (s_acons (s_ix (s_var (pv 3)) s_int) s_anil) (hml := (la_cons la_nil))))))))))) (ss_one (st_ret s_bl)) ss_nil)))))
  (ss_one (st_ret s_bl))))
theorem sc_check_plain : FnScope ["grammar"] ["grammar"] (defScope (top 36)) := ⟨rfl, rfl, rfl, by decide +kernel, rfl, by decide +kernel, by decide +kernel⟩
theorem sim_check_plain {f : Addr} {fd : FuncData} (F : FnP K "check_plain" (top 36) f fd) (hm : mg "check_plain" = some (.ref f)) (T : Tx tab K mg) (fs_is_plain : FS P w K mg base "is_plain" 8 1 F_is_plain) (xc_NotTold : XC P w K mg base "NotTold" 1 ["reason"]) : FS P w K mg base "check_plain" 9 1 F_check_plain := by
  refine fs_of (n := 1) (m := M_check_plain) F sc_check_plain rfl hm (F.bindsN fun _ _ _ _ _ _ us hl => match us, hl with | [_], _ => rfl) fun cdv A outer s H E hr => ?_
  have hu := hr.units
  have T_fok : XFs K tab.fok := T.fokE
  exact (ss_one (st_if (t_not (t_truth (s_call fs_is_plain hr (by first | decide | omega) rfl rfl (s_acons (s_var (pv 0)) s_anil) (hml := (la_cons la_nil))))) (ss_one (st_raise rfl xc_NotTold hr (by first | decide | omega) rfl (s_acons (s_tup (s_acons s_str s_anil)) s_anil))) ss_nil))
theorem sc_best_tree : FnScope ["grammar", "word", "found"] ["grammar", "word"] (defScope (top 40)) := ⟨rfl, rfl, rfl, by decide +kernel, rfl, by decide +kernel, by decide +kernel⟩
theorem sim_best_tree {f : Addr} {fd : FuncData} (F : FnP K "best_tree" (top 40) f fd) (hm : mg "best_tree" = some (.ref f)) (T : Tx tab K mg) (fm_Best_tree : FM P w K mg base "Best" "tree" 63 4 F_Best_tree) (fi_Best : FI P w K mg base "Best" 1 3 [] F_Best_init) (fs_check_word : FS P w K mg base "check_word" 3 2 F_check_word) (fs_check_plain : FS P w K mg base "check_plain" 9 1 F_check_plain) : FS P w K mg base "best_tree" 64 2 F_best_tree := by
  refine fs_of (n := 3) (m := M_best_tree) F sc_best_tree rfl hm (F.bindsN fun _ _ _ _ _ _ us hl => match us, hl with | [_, _], _ => rfl) fun cdv A outer s H E hr => ?_
  have hu := hr.units
  have T_fok : XFs K tab.fok := T.fokE
  exact (ss_cons (st_expr (s_call fs_check_plain hr (by first | decide | omega) rfl rfl (s_acons (s_var (pv 0)) s_anil) (hml := (la_cons la_nil))))
  (ss_cons (st_expr (s_call fs_check_word hr (by first | decide | omega) rfl rfl (s_acons (s_var (pv 1)) (s_acons (s_con rfl (T.con "LONGEST_WORD" _ (List.mem_of_getElem? (i := 2) rfl))) s_anil)) (hml := (la_cons (la_cons la_nil)))))
  (ss_cons (st_set (i := 2) sc_best_tree.nd rfl (.inl rfl) (s_if (t_cmp (o_eq hu) (s_var (pv 1)) s_str (nomark _)) s_non (s_om fm_Best_tree hr (by first | decide | omega) rfl (s_mk fi_Best hr (by first | decide | omega) rfl rfl (s_acons (s_var (pv 0)) (s_acons (s_var (pv 1)) s_anil)) (la_cons (la_cons la_nil))) (s_acons s_int (s_acons s_int (s_acons (s_callB c_len rfl (T.mn "len" (by decide)) (by decide +kernel) (s_acons (s_var (pv 1)) s_anil)) s_anil))) (la_cons (la_cons (la_cons la_nil))))))
  (ss_one (st_ret (s_if (t_cmp o_is (s_var (pv 2)) s_non (nomark _)) s_non (s_tup (s_acons (s_ix (s_var (pv 2)) s_int) (s_acons (s_callTy c_list rfl (T.mn "list" (by decide)) (by decide +kernel) (s_acons (s_ix (s_var (pv 2)) s_int) s_anil)) s_anil)))))))))
theorem sc__law_best : FnScope ["_law_trees_here", "_law_word", "_law_best_here", "_law_chance", "_law_other", "_law_outline"] ["_law_trees_here", "_law_word"] (defScope (top 55)) := ⟨rfl, rfl, rfl, by decide +kernel, rfl, by decide +kernel, by decide +kernel⟩
theorem sim__law_best {f : Addr} {fd : FuncData} (F : FnP K "_law_best" (top 55) f fd) (hm : mg "_law_best" = some (.ref f)) (T : Tx tab K mg) : FS P w K mg base "_law_best" 1 2 F__law_best := by
  refine fs_of (n := 6) (m := M__law_best) F sc__law_best rfl hm (F.bindsN fun _ _ _ _ _ _ us hl => match us, hl with | [_, _], _ => rfl) fun cdv A outer s H E hr => ?_
  have hu := hr.units
  have T_fok : XFs K tab.fok := T.fokE
  exact (ss_cons (st_set (i := 2) sc__law_best.nd rfl (.inl rfl) s_non)
  (ss_cons (st_for (passes_of rfl) rfl (si_seq (s_var (pv 0))) (sg_tup rfl (sgs_cons (sg_name (pg_name (i := 3) sc__law_best.nd rfl (.inl rfl))) (sgs_cons (sg_name (pg_name (i := 4) sc__law_best.nd rfl (.inl rfl))) (sgs_cons (sg_name (pg_name (i := 5) sc__law_best.nd rfl (.inl rfl))) sgs_nil)))) (ss_one (st_if (t_cmp (o_eq hu) (s_var (pv 4)) (s_var (pv 1)) (nomark _)) (ss_one (st_if (t_of_w (w_or (t_cmp o_is (s_var (pv 2)) s_non (nomark _)) (w_or1 (t_cmp o_gt (s_bin o_mul (s_ix (s_var (pv 3)) s_int) (s_ix (s_ix (s_var (pv 2)) s_int) s_int)) (s_bin o_mul (s_ix (s_ix (s_var (pv 2)) s_int) s_int) (s_ix (s_var (pv 3)) s_int)) (nomark _))))) (ss_one (st_set (i := 2) sc__law_best.nd rfl (.inl rfl) (s_tup (s_acons (s_var (pv 3)) (s_acons (s_var (pv 5)) s_anil))))) (ss_one (st_if (t_of_w (w_and (t_cmp (o_eq hu) (s_var (pv 3)) (s_ix (s_var (pv 2)) s_int) (nomark _)) (w_and1 (t_cmp (o_ltX (hu65 hr)) (s_var (pv 5)) (s_ix (s_var (pv 2)) s_int) (nomark _))))) (ss_one (st_set (i := 2) sc__law_best.nd rfl (.inl rfl) (s_tup (s_acons (s_var (pv 3)) (s_acons (s_var (pv 5)) s_anil))))) ss_nil)))) ss_nil)))
  (ss_one (st_ret (s_var (pv 2))))))
theorem sc__law_next : FnScope ["_law_stream_here", "_law_many", "_law_digit", "_law_k", "_law_cell"] ["_law_stream_here", "_law_many"] (defScope (top 43)) := ⟨rfl, rfl, rfl, by decide +kernel, rfl, by decide +kernel, by decide +kernel⟩
theorem sim__law_next {f : Addr} {fd : FuncData} (F : FnP K "_law_next" (top 43) f fd) (hm : mg "_law_next" = some (.ref f)) (T : Tx tab K mg) : FS P w K mg base "_law_next" 1 2 F__law_next := by
  refine fs_of (n := 5) (m := M__law_next) F sc__law_next rfl hm (F.bindsN fun _ _ _ _ _ _ us hl => match us, hl with | [_, _], _ => rfl) fun cdv A outer s H E hr => ?_
  have hu := hr.units
  have T_fok : XFs K tab.fok := T.fokE
  exact (ss_cons (st_if (t_cmp (o_eq hu) (s_ix (s_var (pv 0)) s_int) s_int (nomark _)) (ss_cons (st_set (i := 3) sc__law_next.nd rfl (.inl rfl) (s_ix (s_var (pv 0)) s_int))
  (ss_cons (st_set (i := 4) sc__law_next.nd rfl (.inl rfl) (s_bin o_add s_int (s_var (pv 3))))
  (ss_cons (st_if (t_cmp o_lt (s_var (pv 3)) (s_callB c_len rfl (T.mn "len" (by decide)) (by decide +kernel) (s_acons (s_ix (s_var (pv 0)) s_int) s_anil)) (nomark _)) (ss_one (st_set (i := 4) sc__law_next.nd rfl (.inl rfl) (s_callB c_abs rfl (T.mn "abs" (by decide)) (by decide +kernel) (s_acons (s_ix (s_ix (s_var (pv 0)) s_int) (s_var (pv 3))) s_anil)))) ss_nil)
  (ss_cons (st_if (t_cmp o_lt (s_var (pv 4)) (s_bin o_pow s_int s_int) (nomark _)) (ss_cons (st_set (i := 4) sc__law_next.nd rfl (.inl rfl) (s_bin o_mod (s_callTy c_int rfl (T.mn "int" (by decide)) (by decide +kernel) (s_acons (s_bin o_add (s_bin o_add (s_bin o_mul (s_var (pv 4)) s_int) (s_bin o_mul (s_var (pv 3)) s_int)) s_int) s_anil)) s_int))
  (ss_one (st_set (i := 4) sc__law_next.nd rfl (.inl rfl) (s_bin o_add (s_bin o_mul (s_bin o_mod (s_callTy c_int rfl (T.mn "int" (by decide)) (by decide +kernel) (s_acons (s_bin o_add (s_bin o_mul (s_var (pv 4)) s_int) s_int) s_anil)) s_int) s_int) (s_var (pv 4)))))) ss_nil)
  (ss_cons (st_put p_list (s_var (pv 0)) s_int (s_var (pv 4)))
  (ss_one (st_put p_list (s_var (pv 0)) s_int (s_bin o_add (s_var (pv 3)) s_int)))))))) ss_nil)
  (ss_cons (st_set (i := 2) sc__law_next.nd rfl (.inl rfl) (s_bin o_mod (s_callTy c_int rfl (T.mn "int" (by decide)) (by decide +kernel) (s_acons (s_ix (s_var (pv 0)) s_int) s_anil)) (s_var (pv 1))))
  (ss_cons (st_put p_list (s_var (pv 0)) s_int (s_bin o_fdiv (s_ix (s_var (pv 0)) s_int) (s_var (pv 1))))
  (ss_one (st_ret (s_var (pv 2)))))))
theorem sc__law_gcd : FnScope ["_law_a", "_law_b", "_law_k"] ["_law_a", "_law_b"] (defScope (top 45)) := ⟨rfl, rfl, rfl, by decide +kernel, rfl, by decide +kernel, by decide +kernel⟩
theorem sim__law_gcd {f : Addr} {fd : FuncData} (F : FnP K "_law_gcd" (top 45) f fd) (hm : mg "_law_gcd" = some (.ref f)) (T : Tx tab K mg) : FS P w K mg base "_law_gcd" 1 2 F__law_gcd := by
  refine fs_of (n := 3) (m := M__law_gcd) F sc__law_gcd rfl hm (F.bindsN fun _ _ _ _ _ _ us hl => match us, hl with | [_, _], _ => rfl) fun cdv A outer s H E hr => ?_
  have hu := hr.units
  have T_fok : XFs K tab.fok := T.fokE
  exact (ss_cons (st_set (i := 0) sc__law_gcd.nd rfl (.inl rfl) (s_callB c_abs rfl (T.mn "abs" (by decide)) (by decide +kernel) (s_acons (s_var (pv 0)) s_anil)))
  (ss_cons (st_set (i := 1) sc__law_gcd.nd rfl (.inl rfl) (s_callB c_abs rfl (T.mn "abs" (by decide)) (by decide +kernel) (s_acons (s_var (pv 1)) s_anil)))
  (ss_cons (st_for (passes_of rfl) rfl (si_range1 rfl (T.mn "range" (by decide)) (s_acons s_int s_anil)) (sg_name (pg_name (i := 2) sc__law_gcd.nd rfl (.inl rfl))) (ss_cons (st_if (t_cmp (o_eq hu) (s_var (pv 1)) s_int (nomark _)) (ss_one st_break) ss_nil)
  (ss_one (st_par (i := 0) (j := 1) rfl sc__law_gcd.nd rfl rfl (by decide) rfl rfl (s_acons (s_var (pv 1)) (s_acons (s_bin o_mod (s_callTy c_int rfl (T.mn "int" (by decide)) (by decide +kernel) (s_acons (s_var (pv 0)) s_anil)) (s_var (pv 1))) s_anil)) rfl))))
  (ss_one (st_ret (s_var (pv 0)))))))
theorem sc__law_low : FnScope ["_law_n", "_law_d", "_law_shared"] ["_law_n", "_law_d"] (defScope (top 46)) := ⟨rfl, rfl, rfl, by decide +kernel, rfl, by decide +kernel, by decide +kernel⟩
theorem sim__law_low {f : Addr} {fd : FuncData} (F : FnP K "_law_low" (top 46) f fd) (hm : mg "_law_low" = some (.ref f)) (T : Tx tab K mg) (fs__law_gcd : FS P w K mg base "_law_gcd" 1 2 F__law_gcd) : FS P w K mg base "_law_low" 2 2 F__law_low := by
  refine fs_of (n := 3) (m := M__law_low) F sc__law_low rfl hm (F.bindsN fun _ _ _ _ _ _ us hl => match us, hl with | [_, _], _ => rfl) fun cdv A outer s H E hr => ?_
  have hu := hr.units
  have T_fok : XFs K tab.fok := T.fokE
  exact (ss_cons (st_set (i := 2) sc__law_low.nd rfl (.inl rfl) (s_call fs__law_gcd hr (by first | decide | omega) rfl rfl (s_acons (s_var (pv 0)) (s_acons (s_var (pv 1)) s_anil)) (hml := (la_cons (la_cons la_nil)))))
  (ss_cons (st_if (t_cmp o_lt (s_var (pv 1)) s_int (nomark _)) (ss_one (st_set (i := 2) sc__law_low.nd rfl (.inl rfl) (s_bin o_sub s_int (s_var (pv 2))))) ss_nil)
  (ss_one (st_ret (s_tup (s_acons (s_bin o_fdiv (s_var (pv 0)) (s_var (pv 2))) (s_acons (s_bin o_fdiv (s_var (pv 1)) (s_var (pv 2))) s_anil)))))))
theorem sc__law_times : FnScope ["_law_a", "_law_b"] ["_law_a", "_law_b"] (defScope (top 47)) := ⟨rfl, rfl, rfl, by decide +kernel, rfl, by decide +kernel, by decide +kernel⟩
theorem sim__law_times {f : Addr} {fd : FuncData} (F : FnP K "_law_times" (top 47) f fd) (hm : mg "_law_times" = some (.ref f)) (T : Tx tab K mg) (fs__law_low : FS P w K mg base "_law_low" 2 2 F__law_low) : FS P w K mg base "_law_times" 3 2 F__law_times := by
  refine fs_of (n := 2) (m := M__law_times) F sc__law_times rfl hm (F.bindsN fun _ _ _ _ _ _ us hl => match us, hl with | [_, _], _ => rfl) fun cdv A outer s H E hr => ?_
  have hu := hr.units
  have T_fok : XFs K tab.fok := T.fokE
  exact (ss_one (st_ret (s_call fs__law_low hr (by first | decide | omega) rfl rfl (s_acons (s_bin o_mul (s_ix (s_var (pv 0)) s_int) (s_ix (s_var (pv 1)) s_int)) (s_acons (s_bin o_mul (s_ix (s_var (pv 0)) s_int) (s_ix (s_var (pv 1)) s_int)) s_anil)) (hml := (la_cons (la_cons la_nil))))))
theorem sc__law_trees : FnScope ["_law_grammar_here", "_law_symbol_here", "_law_letters", "_law_found", "_law_at", "_law_rule", "_law_chance", "_law_word", "_law_outline"] ["_law_grammar_here", "_law_symbol_here", "_law_letters"] (defScope (top 53)) := ⟨rfl, rfl, rfl, by decide +kernel, rfl, by decide +kernel, by decide +kernel⟩
theorem sc__law_rows : FnScope ["_law_grammar_here", "_law_symbols", "_law_letters", "_law_rows_here", "_law_k", "_law_symbol_here", "_law_longer", "_law_chance", "_law_word", "_law_outline", "_law_room", "_law_other", "_law_more", "_law_rest"] ["_law_grammar_here", "_law_symbols", "_law_letters"] (defScope (top 54)) := ⟨rfl, rfl, rfl, by decide +kernel, rfl, by decide +kernel, by decide +kernel⟩
theorem sim__law_trees {f__law_trees : Addr} {fd__law_trees : FuncData} (D__law_trees : FnP K "_law_trees" (top 53) f__law_trees fd__law_trees) (hm__law_trees : mg "_law_trees" = some (.ref f__law_trees)) {f__law_rows : Addr} {fd__law_rows : FuncData} (D__law_rows : FnP K "_law_rows" (top 54) f__law_rows fd__law_rows) (hm__law_rows : mg "_law_rows" = some (.ref f__law_rows)) (T : Tx tab K mg) (fs__law_times : FS P w K mg base "_law_times" 3 2 F__law_times) : FS P w K mg base "_law_trees" 64 3 F__law_trees ∧ FS P w K mg base "_law_rows" 64 3 F__law_rows := by
  have hb__law_trees : Binds K fd__law_trees ["_law_grammar_here", "_law_symbol_here", "_law_letters"] [] := D__law_trees.bindsN fun _ _ _ _ _ _ us hl => match us, hl with | [_, _, _], _ => rfl
  have hb__law_rows : Binds K fd__law_rows ["_law_grammar_here", "_law_symbols", "_law_letters"] [] := D__law_rows.bindsN fun _ _ _ _ _ _ us hl => match us, hl with | [_, _, _], _ => rfl
  have q : ∀ m, FS P w K mg base "_law_trees" (4 + m) 3 (F__law_trees_r m) ∧ FS P w K mg base "_law_rows" (4 + m) 3 (F__law_rows_r m) := fun m => by
    induction m with
    | zero => exact ⟨fs_stuck D__law_trees hm__law_trees hb__law_trees, fs_stuck D__law_rows hm__law_rows hb__law_rows⟩
    | succ m ih =>
      obtain ⟨fs__law_trees, fs__law_rows⟩ := ih
      refine ⟨fs_of (n := 9) (m := M__law_trees (F__law_trees_r m) (F__law_rows_r m)) D__law_trees sc__law_trees rfl hm__law_trees hb__law_trees fun cdv A outer s H E hr => ?_, fs_of (n := 14) (m := M__law_rows (F__law_trees_r m) (F__law_rows_r m)) D__law_rows sc__law_rows rfl hm__law_rows hb__law_rows fun cdv A outer s H E hr => ?_⟩
      · have hr : Room (4 + m) _ := hr
        have hu := hr.units
        have T_fok : XFs K tab.fok := T.fokE
        exact (ss_cons (st_if (t_truth (s_isi rfl (T.mn "isinstance" (by decide)) rfl (T.mn "str" (by decide)) (by decide +kernel) (s_var (pv 1)))) (ss_one (st_ret (s_if (t_cmp o_gt (s_var (pv 2)) s_int (nomark _)) (s_lst (s_acons (s_tup (s_acons (s_tup (s_acons s_int (s_acons s_int s_anil))) (s_acons (s_var (pv 1)) (s_acons (s_lst s_anil) s_anil)))) s_anil)) (s_lst s_anil)))) ss_nil)
  (ss_cons (st_set (i := 3) sc__law_trees.nd rfl (.inl rfl) (s_lst s_anil))
  (ss_cons (st_for (passes_of rfl) rfl (si_enumA rfl (T.mn "enumerate" (by decide)) (s_acons (s_ix (s_var (pv 0)) (s_var (pv 1))) s_anil)) (sg_tup rfl (sgs_cons (sg_name (pg_name (i := 4) sc__law_trees.nd rfl (.inl rfl))) (sgs_cons (sg_name (pg_name (i := 5) sc__law_trees.nd rfl (.inl rfl))) sgs_nil))) (ss_one (st_if (t_cmp o_le (s_callB c_len rfl (T.mn "len" (by decide)) (by decide +kernel) (s_acons (s_ix (s_var (pv 5)) s_int) s_anil)) (s_var (pv 2)) (nomark _)) (ss_one (st_for (passes_of rfl) rfl (si_seq (s_call fs__law_rows hr (by first | decide | omega) rfl rfl (s_acons (s_var (pv 0)) (s_acons (s_ix (s_var (pv 5)) s_int) (s_acons (s_var (pv 2)) s_anil))) (hml := (la_cons (la_cons (la_cons la_nil)))))) (sg_tup rfl (sgs_cons (sg_name (pg_name (i := 6) sc__law_trees.nd rfl (.inl rfl))) (sgs_cons (sg_name (pg_name (i := 7) sc__law_trees.nd rfl (.inl rfl))) (sgs_cons (sg_name (pg_name (i := 8) sc__law_trees.nd rfl (.inl rfl))) sgs_nil)))) (ss_one (st_expr (s_meth PySem.F.slot_list_append PySem.F.type_list_append m_append (s_var (pv 3)) (s_acons (s_tup (s_acons (s_call fs__law_times hr (by first | decide | omega) rfl rfl (s_acons (s_ix (s_var (pv 5)) s_int) (s_acons (s_var (pv 6)) s_anil)) (hml := (la_cons (la_cons la_nil)))) (s_acons (s_var (pv 7)) (s_acons (s_bin o_add (s_lst (s_acons (s_tup (s_acons (s_var (pv 1)) (s_acons (s_var (pv 4)) s_anil))) s_anil)) (s_var (pv 8))) s_anil)))) s_anil)))))) ss_nil)))
  (ss_one (st_ret (s_var (pv 3)))))))
      · have hr : Room (4 + m) _ := hr
        have hu := hr.units
        have T_fok : XFs K tab.fok := T.fokE
        exact (ss_cons (st_set (i := 3) sc__law_rows.nd rfl (.inl rfl) (s_lst (s_acons (s_tup (s_acons (s_tup (s_acons s_int (s_acons s_int s_anil))) (s_acons s_str (s_acons (s_lst s_anil) s_anil)))) s_anil)))
  (ss_cons (st_for (passes_of rfl) rfl (si_enumA rfl (T.mn "enumerate" (by decide)) (s_acons (s_var (pv 1)) s_anil)) (sg_tup rfl (sgs_cons (sg_name (pg_name (i := 4) sc__law_rows.nd rfl (.inl rfl))) (sgs_cons (sg_name (pg_name (i := 5) sc__law_rows.nd rfl (.inl rfl))) sgs_nil))) (ss_cons (st_set (i := 6) sc__law_rows.nd rfl (.inl rfl) (s_lst s_anil))
  (ss_cons (st_for (passes_of rfl) rfl (si_seq (s_var (pv 3))) (sg_tup rfl (sgs_cons (sg_name (pg_name (i := 7) sc__law_rows.nd rfl (.inl rfl))) (sgs_cons (sg_name (pg_name (i := 8) sc__law_rows.nd rfl (.inl rfl))) (sgs_cons (sg_name (pg_name (i := 9) sc__law_rows.nd rfl (.inl rfl))) sgs_nil)))) (ss_cons (st_set (i := 10) sc__law_rows.nd rfl (.inl rfl) (s_bin o_sub (s_bin o_sub (s_var (pv 2)) (s_callB c_len rfl (T.mn "len" (by decide)) (by decide +kernel) (s_acons (s_var (pv 8)) s_anil))) (s_bin o_sub (s_bin o_sub (s_callB c_len rfl (T.mn "len" (by decide)) (by decide +kernel) (s_acons (s_var (pv 1)) s_anil)) s_int) (s_var (pv 4)))))
  (ss_one (st_for (passes_of rfl) rfl (si_seq (s_call fs__law_trees hr (by first | decide | omega) rfl rfl (s_acons (s_var (pv 0)) (s_acons (s_var (pv 5)) (s_acons (s_var (pv 10)) s_anil))) (hml := (la_cons (la_cons (la_cons la_nil)))))) (sg_tup rfl (sgs_cons (sg_name (pg_name (i := 11) sc__law_rows.nd rfl (.inl rfl))) (sgs_cons (sg_name (pg_name (i := 12) sc__law_rows.nd rfl (.inl rfl))) (sgs_cons (sg_name (pg_name (i := 13) sc__law_rows.nd rfl (.inl rfl))) sgs_nil)))) (ss_one (st_expr (s_meth PySem.F.slot_list_append PySem.F.type_list_append m_append (s_var (pv 6)) (s_acons (s_tup (s_acons (s_call fs__law_times hr (by first | decide | omega) rfl rfl (s_acons (s_var (pv 7)) (s_acons (s_var (pv 11)) s_anil)) (hml := (la_cons (la_cons la_nil)))) (s_acons (s_bin o_add (s_var (pv 8)) (s_var (pv 12))) (s_acons (s_bin o_add (s_var (pv 9)) (s_var (pv 13))) s_anil)))) s_anil))))))))
  (ss_one (st_set (i := 3) sc__law_rows.nd rfl (.inl rfl) (s_var (pv 6)))))))
  (ss_one (st_ret (s_var (pv 3))))))
  exact q 60
theorem sc__law_chances : FnScope ["_law_stream_here", "_law_many", "_law_rows_here", "_law_left", "_law_k", "_law_n"] ["_law_stream_here", "_law_many"] (defScope (top 49)) := ⟨rfl, rfl, rfl, by decide +kernel, rfl, by decide +kernel, by decide +kernel⟩
theorem sim__law_chances {f : Addr} {fd : FuncData} (F : FnP K "_law_chances" (top 49) f fd) (hm : mg "_law_chances" = some (.ref f)) (T : Tx tab K mg) (fs__law_low : FS P w K mg base "_law_low" 2 2 F__law_low) (fs__law_next : FS P w K mg base "_law_next" 1 2 F__law_next) : FS P w K mg base "_law_chances" 3 2 F__law_chances := by
  refine fs_of (n := 6) (m := M__law_chances) F sc__law_chances rfl hm (F.bindsN fun _ _ _ _ _ _ us hl => match us, hl with | [_, _], _ => rfl) fun cdv A outer s H E hr => ?_
  have hu := hr.units
  have T_fok : XFs K tab.fok := T.fokE
  exact (ss_cons (st_set (i := 2) sc__law_chances.nd rfl (.inl rfl) (s_lst s_anil))
  (ss_cons (st_set (i := 3) sc__law_chances.nd rfl (.inl rfl) s_int)
  (ss_cons (st_for (passes_of rfl) rfl (si_range1 rfl (T.mn "range" (by decide)) (s_acons (s_bin o_sub (s_var (pv 1)) s_int) s_anil)) (sg_name (pg_name (i := 4) sc__law_chances.nd rfl (.inl rfl))) (ss_cons (st_set (i := 5) sc__law_chances.nd rfl (.inl rfl) (s_bin o_add s_int (s_call fs__law_next hr (by first | decide | omega) rfl rfl (s_acons (s_var (pv 0)) (s_acons (s_bin o_add (s_bin o_add (s_bin o_sub (s_var (pv 3)) (s_var (pv 1))) s_int) (s_var (pv 4))) s_anil)) (hml := (la_cons (la_cons la_nil))))))
  (ss_cons (st_expr (s_meth PySem.F.slot_list_append PySem.F.type_list_append m_append (s_var (pv 2)) (s_acons (s_call fs__law_low hr (by first | decide | omega) rfl rfl (s_acons (s_var (pv 5)) (s_acons s_int s_anil)) (hml := (la_cons (la_cons la_nil)))) s_anil)))
  (ss_one (st_set (i := 3) sc__law_chances.nd rfl (.inl rfl) (s_bin o_sub (s_var (pv 3)) (s_var (pv 5))))))))
  (ss_one (st_ret (s_bin o_add (s_var (pv 2)) (s_lst (s_acons (s_call fs__law_low hr (by first | decide | omega) rfl rfl (s_acons (s_var (pv 3)) (s_acons s_int s_anil)) (hml := (la_cons (la_cons la_nil)))) s_anil))))))))
theorem sc__law_symbol : FnScope ["_law_stream_here", "_law_many", "_law_letters"] ["_law_stream_here", "_law_many", "_law_letters"] (defScope (top 50)) := ⟨rfl, rfl, rfl, by decide +kernel, rfl, by decide +kernel, by decide +kernel⟩
theorem sim__law_symbol {f : Addr} {fd : FuncData} (F : FnP K "_law_symbol" (top 50) f fd) (hm : mg "_law_symbol" = some (.ref f)) (T : Tx tab K mg) (fs__law_next : FS P w K mg base "_law_next" 1 2 F__law_next) : FS P w K mg base "_law_symbol" 2 3 F__law_symbol := by
  refine fs_of (n := 3) (m := M__law_symbol) F sc__law_symbol rfl hm (F.bindsN fun _ _ _ _ _ _ us hl => match us, hl with | [_, _, _], _ => rfl) fun cdv A outer s H E hr => ?_
  have hu := hr.units
  have T_fok : XFs K tab.fok := T.fokE
  exact (ss_cons (st_if (t_cmp o_lt (s_call fs__law_next hr (by first | decide | omega) rfl rfl (s_acons (s_var (pv 0)) (s_acons s_int s_anil)) (hml := (la_cons (la_cons la_nil)))) s_int (nomark _)) (ss_one (st_ret (s_call fs__law_next hr (by first | decide | omega) rfl rfl (s_acons (s_var (pv 0)) (s_acons (s_var (pv 1)) s_anil)) (hml := (la_cons (la_cons la_nil)))))) ss_nil)
  (ss_one (st_ret (s_ix s_str (s_call fs__law_next hr (by first | decide | omega) rfl rfl (s_acons (s_var (pv 0)) (s_acons (s_var (pv 2)) s_anil)) (hml := (la_cons (la_cons la_nil))))))))
theorem sc__law_plain_symbols : FnScope ["_law_stream_here", "_law_many", "_law_letters", "_law_most", "_law_k"] ["_law_stream_here", "_law_many", "_law_letters", "_law_most"] (defScope (top 51)) := ⟨rfl, rfl, rfl, by decide +kernel, rfl, by decide +kernel, by decide +kernel⟩
theorem sim__law_plain_symbols {f : Addr} {fd : FuncData} (F : FnP K "_law_plain_symbols" (top 51) f fd) (hm : mg "_law_plain_symbols" = some (.ref f)) (T : Tx tab K mg) (fs__law_next : FS P w K mg base "_law_next" 1 2 F__law_next) (fs__law_symbol : FS P w K mg base "_law_symbol" 2 3 F__law_symbol) : FS P w K mg base "_law_plain_symbols" 3 4 F__law_plain_symbols := by
  refine fs_of (n := 5) (m := M__law_plain_symbols) F sc__law_plain_symbols rfl hm (F.bindsN fun _ _ _ _ _ _ us hl => match us, hl with | [_, _, _, _], _ => rfl) fun cdv A outer s H E hr => ?_
  have hu := hr.units
  have T_fok : XFs K tab.fok := T.fokE
  exact (ss_cons (st_if (t_cmp (o_eq hu) (s_call fs__law_next hr (by first | decide | omega) rfl rfl (s_acons (s_var (pv 0)) (s_acons s_int s_anil)) (hml := (la_cons (la_cons la_nil)))) s_int (nomark _)) (ss_one (st_ret (s_tup (s_acons (s_ix s_str (s_call fs__law_next hr (by first | decide | omega) rfl rfl (s_acons (s_var (pv 0)) (s_acons (s_var (pv 2)) s_anil)) (hml := (la_cons (la_cons la_nil))))) s_anil)))) ss_nil)
  (ss_one (st_ret (s_callTy c_tuple rfl (T.mn "tuple" (by decide)) (by decide +kernel) (s_acons (s_lc (own := [("_law_k", 4)]) rfl rfl sc__law_plain_symbols.nd (si_range1 rfl (T.mn "range" (by decide)) (s_acons (s_bin o_add s_int (s_call fs__law_next hr (by first | decide | omega) rfl rfl (s_acons (s_var (pv 0)) (s_acons (s_bin o_sub (s_var (pv 3)) s_int) s_anil)) (hml := (la_cons (la_cons la_nil))))) s_anil)) (blkOk_by (N := ["_law_stream_here", "_law_many", "_law_letters", "_law_most", "_law_k"]) (sc := defScope (top 51)) (own := [("_law_k", 4)]) (by decide +kernel)) (gf_name (fun s H C cl fp => pg_name (i := 4) sc__law_plain_symbols.nd rfl (.inl rfl)) (by decide)) tf_nil (fun s H C cl fp => (s_call fs__law_symbol hr (by first | decide | omega) rfl rfl (s_acons (s_var (pv 0)) (s_acons (s_var (pv 1)) (s_acons (s_var (pv 2)) s_anil))) (hml := (la_cons (la_cons (la_cons la_nil))))))) s_anil)))))
theorem sc__law_grammar : FnScope ["_law_stream_here", "_law_letters", "_law_most", "_law_many", "_law_grammar_here", "_law_k", "_law_rules", "_law_chance"] ["_law_stream_here", "_law_letters", "_law_most"] (defScope (top 52)) := ⟨rfl, rfl, rfl, by decide +kernel, rfl, by decide +kernel, by decide +kernel⟩
theorem sim__law_grammar {f : Addr} {fd : FuncData} (F : FnP K "_law_grammar" (top 52) f fd) (hm : mg "_law_grammar" = some (.ref f)) (T : Tx tab K mg) (fs__law_chances : FS P w K mg base "_law_chances" 3 2 F__law_chances) (fs__law_next : FS P w K mg base "_law_next" 1 2 F__law_next) (fs__law_plain_symbols : FS P w K mg base "_law_plain_symbols" 3 4 F__law_plain_symbols) : FS P w K mg base "_law_grammar" 4 3 F__law_grammar := by
  refine fs_of (n := 8) (m := M__law_grammar) F sc__law_grammar rfl hm (F.bindsN fun _ _ _ _ _ _ us hl => match us, hl with | [_, _, _], _ => rfl) fun cdv A outer s H E hr => ?_
  have hu := hr.units
  have T_fok : XFs K tab.fok := T.fokE
  exact (ss_cons (st_set (i := 3) sc__law_grammar.nd rfl (.inl rfl) (s_bin o_add s_int (s_call fs__law_next hr (by first | decide | omega) rfl rfl (s_acons (s_var (pv 0)) (s_acons s_int s_anil)) (hml := (la_cons (la_cons la_nil))))))
  (ss_cons (st_set (i := 4) sc__law_grammar.nd rfl (.inl rfl) (s_lst s_anil))
  (ss_cons (st_for (passes_of rfl) rfl (si_range1 rfl (T.mn "range" (by decide)) (s_acons (s_var (pv 3)) s_anil)) (sg_name (pg_name (i := 5) sc__law_grammar.nd rfl (.inl rfl))) (ss_cons (st_set (i := 6) sc__law_grammar.nd rfl (.inl rfl) (s_lst s_anil))
  (ss_cons (st_for (passes_of rfl) rfl (si_seq (s_call fs__law_chances hr (by first | decide | omega) rfl rfl (s_acons (s_var (pv 0)) (s_acons (s_bin o_add s_int (s_call fs__law_next hr (by first | decide | omega) rfl rfl (s_acons (s_var (pv 0)) (s_acons s_int s_anil)) (hml := (la_cons (la_cons la_nil))))) s_anil)) (hml := (la_cons (la_cons la_nil))))) (sg_name (pg_name (i := 7) sc__law_grammar.nd rfl (.inl rfl))) (ss_one (st_expr (s_meth PySem.F.slot_list_append PySem.F.type_list_append m_append (s_var (pv 6)) (s_acons (s_tup (s_acons (s_var (pv 7)) (s_acons (s_call fs__law_plain_symbols hr (by first | decide | omega) rfl rfl (s_acons (s_var (pv 0)) (s_acons (s_var (pv 3)) (s_acons (s_var (pv 1)) (s_acons (s_var (pv 2)) s_anil)))) (hml := (la_cons (la_cons (la_cons (la_cons la_nil)))))) s_anil))) s_anil)))))
  (ss_one (st_expr (s_meth PySem.F.slot_list_append PySem.F.type_list_append m_append (s_var (pv 4)) (s_acons (s_callTy c_tuple rfl (T.mn "tuple" (by decide)) (by decide +kernel) (s_acons (s_var (pv 6)) s_anil)) s_anil)))))))
  (ss_one (st_ret (s_callTy c_tuple rfl (T.mn "tuple" (by decide)) (by decide +kernel) (s_acons (s_var (pv 4)) s_anil)))))))
theorem sc__law_stream : FnScope ["_law_script"] ["_law_script"] (defScope (top 42)) := ⟨rfl, rfl, rfl, by decide +kernel, rfl, by decide +kernel, by decide +kernel⟩
theorem sim__law_stream {f : Addr} {fd : FuncData} (F : FnP K "_law_stream" (top 42) f fd) (hm : mg "_law_stream" = some (.ref f)) (T : Tx tab K mg) : FS P w K mg base "_law_stream" 1 1 F__law_stream := by
  refine fs_of (n := 1) (m := M__law_stream) F sc__law_stream rfl hm (F.bindsN fun _ _ _ _ _ _ us hl => match us, hl with | [_], _ => rfl) fun cdv A outer s H E hr => ?_
  have hu := hr.units
  have T_fok : XFs K tab.fok := T.fokE
  exact (ss_one (st_ret (s_lst (s_acons (s_callTy c_list rfl (T.mn "list" (by decide)) (by decide +kernel) (s_acons (s_var (pv 0)) s_anil)) (s_acons s_int (s_acons s_int s_anil))))))
theorem sc_law : FnScope ["_law_script", "_law_stream_here", "_law_letters", "_law_grammar_here", "_law_trees_here", "_law_turn", "_law_word", "_law_due", "_law_told", "_law_again", "_law_k"] ["_law_script"] (defScope (top 56)) := ⟨rfl, rfl, rfl, by decide +kernel, rfl, by decide +kernel, by decide +kernel⟩
theorem sim_law {f : Addr} {fd : FuncData} (F : FnP K "law" (top 56) f fd) (hm : mg "law" = some (.ref f)) (T : Tx tab K mg) (fs__law_equal : FS P w K mg base "_law_equal" 12 2 F__law_equal) (fs_best_tree : FS P w K mg base "best_tree" 64 2 F_best_tree) (fs__law_best : FS P w K mg base "_law_best" 1 2 F__law_best) (fs__law_next : FS P w K mg base "_law_next" 1 2 F__law_next) (fs__law_trees : FS P w K mg base "_law_trees" 64 3 F__law_trees) (fs__law_grammar : FS P w K mg base "_law_grammar" 4 3 F__law_grammar) (fs__law_stream : FS P w K mg base "_law_stream" 1 1 F__law_stream) : FnOk P w K mg base (L2.CX P w) 65 f fd ["_law_script"] (spF K mg 1 F_law) := by
  refine fn_sim (n := 11) (m := M_law) F sc_law rfl fun cdv A outer s H E hr => ?_
  have hu := hr.units
  have T_fok : XFs K tab.fok := T.fokE
  exact (ss_cons (st_set (i := 1) sc_law.nd rfl (.inr rfl) (s_call fs__law_stream hr (by first | decide | omega) rfl rfl (s_acons (s_var (pv 0)) s_anil) (hml := (la_cons la_nil))))
  (ss_cons (st_set (i := 2) sc_law.nd rfl (.inr rfl) (s_bin o_add s_int (s_call fs__law_next hr (by first | decide | omega) rfl rfl (s_acons (s_var (pv 1)) (s_acons s_int s_anil)) (hml := (la_cons (la_cons la_nil))))))
  (ss_cons (st_set (i := 3) sc_law.nd rfl (.inl rfl) (s_call fs__law_grammar hr (by first | decide | omega) rfl rfl (s_acons (s_var (pv 1)) (s_acons (s_var (pv 2)) (s_acons s_int s_anil))) (hml := (la_cons (la_cons (la_cons la_nil))))))
  (ss_cons (st_set (i := 4) sc_law.nd rfl (.inl rfl) (s_call fs__law_trees hr (by first | decide | omega) rfl rfl (s_acons (s_var (pv 3)) (s_acons s_int (s_acons (s_bin o_sub s_int (s_var (pv 2))) s_anil))) (hml := (la_cons (la_cons (la_cons la_nil))))))
  (ss_cons (st_for (passes_of rfl) rfl (si_range1 rfl (T.mn "range" (by decide)) (s_acons s_int s_anil)) (sg_name (pg_name (i := 5) sc_law.nd rfl (.inl rfl))) (ss_cons (st_set (i := 6) sc_law.nd rfl (.inl rfl) (s_join s_str (s_lc (own := [("_law_k", 10)]) rfl rfl sc_law.nd (si_range1 rfl (T.mn "range" (by decide)) (s_acons (s_call fs__law_next hr (by first | decide | omega) rfl rfl (s_acons (s_var (pv 1)) (s_acons s_int s_anil)) (hml := (la_cons (la_cons la_nil)))) s_anil)) (blkOk_by (N := ["_law_script", "_law_stream_here", "_law_letters", "_law_grammar_here", "_law_trees_here", "_law_turn", "_law_word", "_law_due", "_law_told", "_law_again", "_law_k"]) (sc := defScope (top 56)) (own := [("_law_k", 10)]) (by decide +kernel)) (gf_name (fun s H C cl fp => pg_name (i := 10) sc_law.nd rfl (.inl rfl)) (by decide)) tf_nil (fun s H C cl fp => (s_ix s_str (s_call fs__law_next hr (by first | decide | omega) rfl rfl (s_acons (s_var (pv 1)) (s_acons (s_var (pv 2)) s_anil)) (hml := (la_cons (la_cons la_nil)))))))))
  (ss_cons (st_if (t_of_w (w_and (t_truth (s_var (pv 4))) (w_and1 (t_cmp o_lt (s_var (pv 5)) s_int (nomark _))))) (ss_one (st_set (i := 6) sc_law.nd rfl (.inl rfl) (s_ix (s_ix (s_var (pv 4)) (s_call fs__law_next hr (by first | decide | omega) rfl rfl (s_acons (s_var (pv 1)) (s_acons (s_callB c_len rfl (T.mn "len" (by decide)) (by decide +kernel) (s_acons (s_var (pv 4)) s_anil)) s_anil)) (hml := (la_cons (la_cons la_nil))))) s_int))) ss_nil)
  (ss_cons (st_set (i := 7) sc_law.nd rfl (.inl rfl) (s_if (t_cmp o_le (s_callB c_len rfl (T.mn "len" (by decide)) (by decide +kernel) (s_acons (s_var (pv 6)) s_anil)) (s_bin o_sub s_int (s_var (pv 2))) (nomark _)) (s_call fs__law_best hr (by first | decide | omega) rfl rfl (s_acons (s_var (pv 4)) (s_acons (s_var (pv 6)) s_anil)) (hml := (la_cons (la_cons la_nil)))) s_non))
  (ss_cons (st_set (i := 8) sc_law.nd rfl (.inl rfl) (s_call fs_best_tree hr (by first | decide | omega) rfl rfl (s_acons (s_var (pv 3)) (s_acons (s_var (pv 6)) s_anil)) (hml := (la_cons (la_cons la_nil)))))
  (ss_cons (st_if (t_of_w (w_and (t_cmp o_le (s_callB c_len rfl (T.mn "len" (by decide)) (by decide +kernel) (s_acons (s_var (pv 6)) s_anil)) (s_bin o_sub s_int (s_var (pv 2))) (nomark _)) (w_and1 (t_not (t_truth (s_call fs__law_equal hr (by first | decide | omega) rfl rfl (s_acons (s_var (pv 8)) (s_acons (s_var (pv 7)) s_anil)) (hml := (la_cons (la_cons la_nil))))))))) (ss_one (st_ret s_bl)) ss_nil)
  (ss_one (st_if (t_cmp o_isnot (s_var (pv 8)) s_non (nomark _)) (ss_cons (st_expr (s_meth PySem.F.slot_list_append PySem.F.type_list_append m_append (s_ix (s_var (pv 8)) s_int) (s_acons (s_tup (s_acons s_int (s_acons s_int s_anil))) s_anil)))
  (ss_cons (st_set (i := 9) sc_law.nd rfl (.inl rfl) (s_call fs_best_tree hr (by first | decide | omega) rfl rfl (s_acons (s_var (pv 3)) (s_acons (s_var (pv 6)) s_anil)) (hml := (la_cons (la_cons la_nil)))))
  (ss_one (st_if (t_not (t_truth (s_call fs__law_equal hr (by first | decide | omega) rfl rfl (s_acons (s_sl (s_ix (s_var (pv 8)) s_int) so_none (so_some (s_neg s_int))) (s_acons (s_ix (s_var (pv 9)) s_int) s_anil)) (hml := (la_cons (la_cons la_nil)))))) (ss_one (st_ret s_bl)) ss_nil)))) ss_nil))))))))
  (ss_one (st_ret s_bl)))))))
end
end Zl
/-! Z25: what the module's names reach, each once (a mask of those seen): cheaper for the kernel. -/
namespace Z
open PySem PySem.Spec PyProof.Rows L2 HandSHeadRun
def seenB (m a : Nat) : Bool := Nat.beq (Nat.land (Nat.shiftRight m a) 1) 1
def setB (m a : Nat) : Nat := Nat.lor m (Nat.shiftLeft 1 a)
/-- those of a level that are new; what they name -/
def pass {α : Type} (g : Addr → Option Obj) : List Addr → Nat → List Addr → List Addr → (List Addr → List Addr → Nat → α) → α
  | [], m, acc, nx, k => k acc nx m
  | a :: fr, m, acc, nx, k => match seenB m a with
    | true => pass g fr m acc nx k
    | false => frNat (setB m a) fun m => match g a with
      | some o => pass g fr m (a :: acc) (He.refsD o ++ nx) k
      | none => pass g fr m acc nx k
def asZ (g : Addr → Option Obj) : Nat → List Addr → Nat → List Addr → List Addr
  | 0, _, _, acc => acc
  | d + 1, fr, m, acc => pass g fr m acc [] fun acc nx m => asZ g d nx m acc
def obsY (n : Nat) (t : Tab) (fn : List He.DefD) (g : Addr → Option Obj) : He.AlT := obsZ t fn (He.frG g (asZ g n [mainGlobals] 0 []))
def hookY (n : Nat) (t : Tab) (fn : List He.DefD) : PySem.W.Hook where
  α := He.AlT
  obs := fun s => obsY n t fn s.heap.get?
  val := fun w => valZ t fn w
  says := fun w h => ∃ K : PySem.W.Frag, K.In h ∧ SaysZ t fn w K
  of := fun _ _ e => ⟨_, He.frG_in, e⟩
  keeps := fun _ _ _ ⟨K, hK, c⟩ k => ⟨K, PySem.W.Frag.In.keeps hK k, c⟩
theorem obsY_eq {n : Nat} {t : Tab} {fn : List He.DefD} {g : Addr → Option Obj} {s : Shared} (h : ∀ a, g a = s.heap.get? a) : obsY n t fn g = (hookY n t fn).obs s := by
  have e : g = s.heap.get? := funext h
  rw [e] <;> rfl
end Z
namespace Zl
open PySem PySem.Spec PyProof.Rows L2 Z Zc
def fns : List He.DefD := [⟨("_law_is_integer", none), "_law_is_integer", "_law_is_integer", defArgs (top 44), defBody (top 44), defScope (top 44), [], []⟩,
  ⟨("_law_equal", none), "_law_equal", "_law_equal", defArgs (top 48), defBody (top 48), defScope (top 48), [], []⟩,
  ⟨("less", none), "less", "less", defArgs (top 12), defBody (top 12), defScope (top 12), [], []⟩,
  ⟨("better", none), "better", "better", defArgs (top 39), defBody (top 39), defScope (top 39), [], []⟩,
  ⟨("reduced", none), "reduced", "reduced", defArgs (top 9), defBody (top 9), defScope (top 9), [], []⟩,
  ⟨("times", none), "times", "times", defArgs (top 11), defBody (top 11), defScope (top 11), [], []⟩,
  ⟨("is_letter", none), "is_letter", "is_letter", defArgs (top 30), defBody (top 30), defScope (top 30), [], []⟩,
  ⟨("Best", some "tree"), "tree", "Best.tree", defArgs (inClass (top 38) 1), defBody (inClass (top 38) 1), defScope (inClass (top 38) 1), [], []⟩,
  ⟨("Best", some "row"), "row", "Best.row", defArgs (inClass (top 38) 2), defBody (inClass (top 38) 2), defScope (inClass (top 38) 2), [], []⟩,
  ⟨("Best", some "__init__"), "__init__", "Best.__init__", defArgs (inClass (top 38) 0), defBody (inClass (top 38) 0), defScope (inClass (top 38) 0), [], []⟩,
  ⟨("check_word", none), "check_word", "check_word", defArgs (top 37), defBody (top 37), defScope (top 37), [], []⟩,
  ⟨("plus", none), "plus", "plus", defArgs (top 10), defBody (top 10), defScope (top 10), [], []⟩,
  ⟨("is_integer", none), "is_integer", "is_integer", defArgs (top 15), defBody (top 15), defScope (top 15), [], []⟩,
  ⟨("is_index", none), "is_index", "is_index", defArgs (top 17), defBody (top 17), defScope (top 17), [], []⟩,
  ⟨("is_integer_rationals", none), "is_integer", "is_integer", defArgs (top 6), defBody (top 6), defScope (top 6), [], []⟩,
  ⟨("is_rational", none), "is_rational", "is_rational", defArgs (top 8), defBody (top 8), defScope (top 8), [], []⟩,
  ⟨("is_chance", none), "is_chance", "is_chance", defArgs (top 18), defBody (top 18), defScope (top 18), [], []⟩,
  ⟨("is_rule", none), "is_rule", "is_rule", defArgs (top 31), defBody (top 31), defScope (top 31), [], []⟩,
  ⟨("is_rules", none), "is_rules", "is_rules", defArgs (top 32), defBody (top 32), defScope (top 32), [], []⟩,
  ⟨("is_grammar", none), "is_grammar", "is_grammar", defArgs (top 33), defBody (top 33), defScope (top 33), [], []⟩,
  ⟨("check_grammar", none), "check_grammar", "check_grammar", defArgs (top 34), defBody (top 34), defScope (top 34), [], []⟩,
  ⟨("is_plain", none), "is_plain", "is_plain", defArgs (top 35), defBody (top 35), defScope (top 35), [], []⟩,
  ⟨("check_plain", none), "check_plain", "check_plain", defArgs (top 36), defBody (top 36), defScope (top 36), [], []⟩,
  ⟨("best_tree", none), "best_tree", "best_tree", defArgs (top 40), defBody (top 40), defScope (top 40), [], []⟩,
  ⟨("_law_best", none), "_law_best", "_law_best", defArgs (top 55), defBody (top 55), defScope (top 55), [], []⟩,
  ⟨("_law_next", none), "_law_next", "_law_next", defArgs (top 43), defBody (top 43), defScope (top 43), [], []⟩,
  ⟨("_law_gcd", none), "_law_gcd", "_law_gcd", defArgs (top 45), defBody (top 45), defScope (top 45), [], []⟩,
  ⟨("_law_low", none), "_law_low", "_law_low", defArgs (top 46), defBody (top 46), defScope (top 46), [], []⟩,
  ⟨("_law_times", none), "_law_times", "_law_times", defArgs (top 47), defBody (top 47), defScope (top 47), [], []⟩,
  ⟨("_law_trees", none), "_law_trees", "_law_trees", defArgs (top 53), defBody (top 53), defScope (top 53), [], []⟩,
  ⟨("_law_rows", none), "_law_rows", "_law_rows", defArgs (top 54), defBody (top 54), defScope (top 54), [], []⟩,
  ⟨("_law_chances", none), "_law_chances", "_law_chances", defArgs (top 49), defBody (top 49), defScope (top 49), [], []⟩,
  ⟨("_law_symbol", none), "_law_symbol", "_law_symbol", defArgs (top 50), defBody (top 50), defScope (top 50), [], []⟩,
  ⟨("_law_plain_symbols", none), "_law_plain_symbols", "_law_plain_symbols", defArgs (top 51), defBody (top 51), defScope (top 51), [], []⟩,
  ⟨("_law_grammar", none), "_law_grammar", "_law_grammar", defArgs (top 52), defBody (top 52), defScope (top 52), [], []⟩,
  ⟨("_law_stream", none), "_law_stream", "_law_stream", defArgs (top 42), defBody (top 42), defScope (top 42), [], []⟩,
  ⟨("law", none), "law", "law", defArgs (top 56), defBody (top 56), defScope (top 56), [], []⟩,
  ⟨("BadValue", some "__init__"), "__init__", "BadValue.__init__", defArgs (inClass (top 3) 0), defBody (inClass (top 3) 0), defScope (inClass (top 3) 0), [], []⟩,
  ⟨("NotTold", some "__init__"), "__init__", "NotTold.__init__", defArgs (inClass (top 4) 0), defBody (inClass (top 4) 0), defScope (inClass (top 4) 0), [], []⟩]
abbrev R : PySem.W.OpenRow := PySem.W.OpenLaw.row PySem.Challenge.rw_oddscall_k76_best_trees
def loose : List PySem.Str := (["__name__", "OddsError", "BadValue", "NotTold", "is_integer", "is_integer_rationals", "is_rational", "reduced", "plus", "times", "less", "MOST_DENOMINATOR", "is_integer_graphs", "is_index", "is_chance", "LETTERS", "ZERO", "ONE", "MOST_VARIABLES", "MOST_RULES", "MOST_RULES_IN_ALL", "MOST_SYMBOLS", "MOST_SYMBOLS_OF_ONE", "MOST_POINTS", "LONGEST_WORD", "is_letter", "is_rule", "is_rules", "is_grammar", "check_grammar"] : List PySem.Str) ++ (["is_plain", "check_plain", "check_word", "Best", "better", "best_tree", "_law_stream", "_law_next", "_law_is_integer", "_law_gcd", "_law_low", "_law_times", "_law_equal", "_law_chances", "_law_symbol", "_law_plain_symbols", "_law_grammar", "_law_trees", "_law_rows", "_law_best"] : List PySem.Str)
abbrev hk : PySem.W.Hook := hookY 5 tab fns
def ob (s : PySem.W.SharedT) : He.AlT := obsY 5 tab fns (HandSHeadRun.getT s)
theorem ob_eq (s : PySem.W.SharedT) : ob s = hk.obs s.abs := obsY_eq (HandSHeadRun.getT_eq s)
theorem run (w : World) : HandSHeadRun.RunEqI R (PySem.W.view R.prog [0, 56]) hk ob 12000 loose w := by
  unfold HandSHeadRun.RunEqI
  kernel_rfl
theorem facts {P : Program} {w : World} {K : PySem.W.Frag} {h : Heap} {mg : Str → Option Value} {f : Addr} (X : K.In h) (G : h.Ns mainGlobals mg) (hfa : mg ("law" : Str) = some (.ref f)) (c : SaysZ tab fns w K) :
    ∃ fd : FuncData, (∀ (s : Shared) (v : Value), BindsTo s fd ⟨[v], []⟩ [("_law_script", v)]) ∧ ∀ base : Heap, FnOk P w K mg base (L2.CX P w) 65 f fd ["_law_script"] (spF K mg 1 F_law) := by
  have T : Tx tab K mg := Tab.tx c.tab X G
  obtain ⟨fd__law_is_integer, D__law_is_integer⟩ := c.def_ 0 rfl
  obtain ⟨fd__law_equal, D__law_equal⟩ := c.def_ 1 rfl
  obtain ⟨fd_less, D_less⟩ := c.def_ 2 rfl
  obtain ⟨fd_better, D_better⟩ := c.def_ 3 rfl
  obtain ⟨fd_reduced, D_reduced⟩ := c.def_ 4 rfl
  obtain ⟨fd_times, D_times⟩ := c.def_ 5 rfl
  obtain ⟨fd_is_letter, D_is_letter⟩ := c.def_ 6 rfl
  obtain ⟨fd_Best_tree, D_Best_tree⟩ := c.def_ 7 rfl
  obtain ⟨fd_Best_row, D_Best_row⟩ := c.def_ 8 rfl
  obtain ⟨fd_Best_init, D_Best_init⟩ := c.def_ 9 rfl
  obtain ⟨fd_check_word, D_check_word⟩ := c.def_ 10 rfl
  obtain ⟨fd_plus, D_plus⟩ := c.def_ 11 rfl
  obtain ⟨fd_is_integer, D_is_integer⟩ := c.def_ 12 rfl
  obtain ⟨fd_is_index, D_is_index⟩ := c.def_ 13 rfl
  obtain ⟨fd_is_integer_rationals, D_is_integer_rationals⟩ := c.def_ 14 rfl
  obtain ⟨fd_is_rational, D_is_rational⟩ := c.def_ 15 rfl
  obtain ⟨fd_is_chance, D_is_chance⟩ := c.def_ 16 rfl
  obtain ⟨fd_is_rule, D_is_rule⟩ := c.def_ 17 rfl
  obtain ⟨fd_is_rules, D_is_rules⟩ := c.def_ 18 rfl
  obtain ⟨fd_is_grammar, D_is_grammar⟩ := c.def_ 19 rfl
  obtain ⟨fd_check_grammar, D_check_grammar⟩ := c.def_ 20 rfl
  obtain ⟨fd_is_plain, D_is_plain⟩ := c.def_ 21 rfl
  obtain ⟨fd_check_plain, D_check_plain⟩ := c.def_ 22 rfl
  obtain ⟨fd_best_tree, D_best_tree⟩ := c.def_ 23 rfl
  obtain ⟨fd__law_best, D__law_best⟩ := c.def_ 24 rfl
  obtain ⟨fd__law_next, D__law_next⟩ := c.def_ 25 rfl
  obtain ⟨fd__law_gcd, D__law_gcd⟩ := c.def_ 26 rfl
  obtain ⟨fd__law_low, D__law_low⟩ := c.def_ 27 rfl
  obtain ⟨fd__law_times, D__law_times⟩ := c.def_ 28 rfl
  obtain ⟨fd__law_trees, D__law_trees⟩ := c.def_ 29 rfl
  obtain ⟨fd__law_rows, D__law_rows⟩ := c.def_ 30 rfl
  obtain ⟨fd__law_chances, D__law_chances⟩ := c.def_ 31 rfl
  obtain ⟨fd__law_symbol, D__law_symbol⟩ := c.def_ 32 rfl
  obtain ⟨fd__law_plain_symbols, D__law_plain_symbols⟩ := c.def_ 33 rfl
  obtain ⟨fd__law_grammar, D__law_grammar⟩ := c.def_ 34 rfl
  obtain ⟨fd__law_stream, D__law_stream⟩ := c.def_ 35 rfl
  obtain ⟨fd_law, D_law⟩ := c.def_ 36 rfl
  have e := hfa.symm.trans (T.mc "law" (by decide))
  cases e
  obtain ⟨fdx_BadValue, Dx_BadValue⟩ := c.def_ 37 rfl
  have X_BadValue := T.xc "BadValue" ["name"] (by decide)
  obtain ⟨fdx_NotTold, Dx_NotTold⟩ := c.def_ 38 rfl
  have X_NotTold := T.xc "NotTold" ["reason"] (by decide)
  refine ⟨fd_law, fun s v => FunD.bindsA (ps := ["_law_script"]) D_law (fun _ _ _ _ _ _ us hl => match us, hl with | [_], _ => rfl) s [v] rfl, fun base => ?_⟩
  have xc_BadValue : XC P w K mg base "BadValue" 1 ["name"] := ⟨_, _, fdx_BadValue, ["self", "name"], rfl, T.mc "BadValue" (by decide), X_BadValue.oex, X_BadValue.iC, X_BadValue.tI, Dx_BadValue.bindsN (ps := ["self", "name"]) (fun _ _ _ _ _ _ us hl => match us, hl with | [_, _], _ => rfl), init1 Dx_BadValue (⟨rfl, rfl, rfl, by decide +kernel, rfl, by decide +kernel, by decide +kernel⟩ : FnScope ["self", "name"] ["self", "name"] (defScope (inClass (top 3) 0))) X_BadValue.oex (X_BadValue.no "name" (by decide)) (.inl rfl) (.inl rfl)⟩
  have xc_NotTold : XC P w K mg base "NotTold" 1 ["reason"] := ⟨_, _, fdx_NotTold, ["self", "reason"], rfl, T.mc "NotTold" (by decide), X_NotTold.oex, X_NotTold.iC, X_NotTold.tI, Dx_NotTold.bindsN (ps := ["self", "reason"]) (fun _ _ _ _ _ _ us hl => match us, hl with | [_, _], _ => rfl), init1 Dx_NotTold (⟨rfl, rfl, rfl, by decide +kernel, rfl, by decide +kernel, by decide +kernel⟩ : FnScope ["self", "reason"] ["self", "reason"] (defScope (inClass (top 4) 0))) X_NotTold.oex (X_NotTold.no "reason" (by decide)) (.inl rfl) (.inl rfl)⟩
  have fs__law_is_integer : FS P w K mg base "_law_is_integer" 1 1 F__law_is_integer := sim__law_is_integer D__law_is_integer (T.mc "_law_is_integer" (by decide)) T   
  have fs__law_equal : FS P w K mg base "_law_equal" 12 2 F__law_equal := sim__law_equal D__law_equal (T.mc "_law_equal" (by decide)) T fs__law_is_integer  
  have fs_less : FS P w K mg base "less" 1 2 F_less := sim_less D_less (T.mc "less" (by decide)) T   
  have fs_better : FS P w K mg base "better" 2 2 F_better := sim_better D_better (T.mc "better" (by decide)) T fs_less  
  have fs_reduced : FS P w K mg base "reduced" 1 2 F_reduced := sim_reduced D_reduced (T.mc "reduced" (by decide)) T   
  have fs_times : FS P w K mg base "times" 2 2 F_times := sim_times D_times (T.mc "times" (by decide)) T fs_reduced  
  have fs_is_letter : FS P w K mg base "is_letter" 1 1 F_is_letter := sim_is_letter D_is_letter (T.mc "is_letter" (by decide)) T   
  have G_Best_tree : FM P w K mg base "Best" "tree" 63 4 F_Best_tree ∧ FM P w K mg base "Best" "row" 63 4 F_Best_row := sim_Best_tree D_Best_tree D_Best_row T fs_better fs_times fs_is_letter  
  obtain ⟨fm_Best_tree, fm_Best_row⟩ := G_Best_tree
  have fi_Best : FI P w K mg base "Best" 1 3 [] F_Best_init := sim_Best_init D_Best_init T   
  have fs_check_word : FS P w K mg base "check_word" 3 2 F_check_word := sim_check_word D_check_word (T.mc "check_word" (by decide)) T fs_is_letter xc_BadValue 
  have fs_plus : FS P w K mg base "plus" 2 2 F_plus := sim_plus D_plus (T.mc "plus" (by decide)) T fs_reduced  
  have fs_is_integer : FS P w K mg base "is_integer" 1 1 F_is_integer := sim_is_integer D_is_integer (T.mc "is_integer" (by decide)) T   
  have fs_is_index : FS P w K mg base "is_index" 2 2 F_is_index := sim_is_index D_is_index (T.mc "is_index" (by decide)) T fs_is_integer  
  have fs_is_integer_rationals : FS P w K mg base "is_integer_rationals" 1 1 F_is_integer := sim_is_integer_rationals D_is_integer_rationals (T.mc "is_integer_rationals" (by decide)) T   
  have fs_is_rational : FS P w K mg base "is_rational" 2 1 F_is_rational := sim_is_rational D_is_rational (T.mc "is_rational" (by decide)) T fs_is_integer_rationals  
  have fs_is_chance : FS P w K mg base "is_chance" 3 1 F_is_chance := sim_is_chance D_is_chance (T.mc "is_chance" (by decide)) T fs_is_rational  
  have fs_is_rule : FS P w K mg base "is_rule" 4 2 F_is_rule := sim_is_rule D_is_rule (T.mc "is_rule" (by decide)) T fs_is_letter fs_is_index fs_is_chance  
  have fs_is_rules : FS P w K mg base "is_rules" 5 2 F_is_rules := sim_is_rules D_is_rules (T.mc "is_rules" (by decide)) T fs_plus fs_is_rule  
  have fs_is_grammar : FS P w K mg base "is_grammar" 6 1 F_is_grammar := sim_is_grammar D_is_grammar (T.mc "is_grammar" (by decide)) T fs_is_rules  
  have fs_check_grammar : FS P w K mg base "check_grammar" 7 1 F_check_grammar := sim_check_grammar D_check_grammar (T.mc "check_grammar" (by decide)) T fs_is_grammar xc_BadValue 
  have fs_is_plain : FS P w K mg base "is_plain" 8 1 F_is_plain := sim_is_plain D_is_plain (T.mc "is_plain" (by decide)) T fs_is_letter fs_check_grammar  
  have fs_check_plain : FS P w K mg base "check_plain" 9 1 F_check_plain := sim_check_plain D_check_plain (T.mc "check_plain" (by decide)) T fs_is_plain xc_NotTold 
  have fs_best_tree : FS P w K mg base "best_tree" 64 2 F_best_tree := sim_best_tree D_best_tree (T.mc "best_tree" (by decide)) T fm_Best_tree fi_Best fs_check_word fs_check_plain  
  have fs__law_best : FS P w K mg base "_law_best" 1 2 F__law_best := sim__law_best D__law_best (T.mc "_law_best" (by decide)) T   
  have fs__law_next : FS P w K mg base "_law_next" 1 2 F__law_next := sim__law_next D__law_next (T.mc "_law_next" (by decide)) T   
  have fs__law_gcd : FS P w K mg base "_law_gcd" 1 2 F__law_gcd := sim__law_gcd D__law_gcd (T.mc "_law_gcd" (by decide)) T   
  have fs__law_low : FS P w K mg base "_law_low" 2 2 F__law_low := sim__law_low D__law_low (T.mc "_law_low" (by decide)) T fs__law_gcd  
  have fs__law_times : FS P w K mg base "_law_times" 3 2 F__law_times := sim__law_times D__law_times (T.mc "_law_times" (by decide)) T fs__law_low  
  have G__law_trees : FS P w K mg base "_law_trees" 64 3 F__law_trees ∧ FS P w K mg base "_law_rows" 64 3 F__law_rows := sim__law_trees D__law_trees (T.mc "_law_trees" (by decide)) D__law_rows (T.mc "_law_rows" (by decide)) T fs__law_times  
  obtain ⟨fs__law_trees, fs__law_rows⟩ := G__law_trees
  have fs__law_chances : FS P w K mg base "_law_chances" 3 2 F__law_chances := sim__law_chances D__law_chances (T.mc "_law_chances" (by decide)) T fs__law_low fs__law_next  
  have fs__law_symbol : FS P w K mg base "_law_symbol" 2 3 F__law_symbol := sim__law_symbol D__law_symbol (T.mc "_law_symbol" (by decide)) T fs__law_next  
  have fs__law_plain_symbols : FS P w K mg base "_law_plain_symbols" 3 4 F__law_plain_symbols := sim__law_plain_symbols D__law_plain_symbols (T.mc "_law_plain_symbols" (by decide)) T fs__law_next fs__law_symbol  
  have fs__law_grammar : FS P w K mg base "_law_grammar" 4 3 F__law_grammar := sim__law_grammar D__law_grammar (T.mc "_law_grammar" (by decide)) T fs__law_chances fs__law_next fs__law_plain_symbols  
  have fs__law_stream : FS P w K mg base "_law_stream" 1 1 F__law_stream := sim__law_stream D__law_stream (T.mc "_law_stream" (by decide)) T   
  exact sim_law D_law hfa T fs__law_equal fs_best_tree fs__law_best fs__law_next fs__law_trees fs__law_grammar fs__law_stream  
end Zl
/-! P1: plain data: none, ints, texts, tuples of such; when two are equal, and in. -/
namespace Z
open PySem PySem.Spec PyProof.Rows L2
/-- plain, to the depth k -/
def pln : Nat → D → Bool
  | 0, _ => false
  | k + 1, d => match d with
    | .non => true
    | .int _ => true
    | .str x => PyData.strOk x
    | .tup ds => ds.all (pln k)
    | _ => false
theorem pdL_cons {f : D → Option PyData} {d : D} {ds : List D} {p : PyData} {ps : List PyData} (h1 : f d = some p) (h2 : pdL f ds = some ps) : pdL f (d :: ds) = some (p :: ps) := by
  unfold pdL
  rw [h1, h2]
theorem pd_pln (h : IH) : ∀ (k : Nat) (d : D), pln k d = true → ∃ p, pd k h d = some p ∧ p.canLay0 = true ∧ p.depth ≤ k
  | 0, _, e => by cases e
  | k + 1, d, e => by
    cases d with
    | non => exact ⟨.none, rfl, by simp [PyData.canLay0], by simp [PyData.depth]⟩
    | int i => exact ⟨.int i, rfl, by simp [PyData.canLay0], by simp [PyData.depth]⟩
    | str x => exact ⟨.str x, rfl, by simp [PyData.canLay0]; exact e, by simp [PyData.depth]⟩
    | tup ds =>
      have e : ds.all (pln k) = true := e
      have key : ∀ ds : List D, ds.all (pln k) = true → ∃ ps, pdL (pd k h) ds = some ps ∧ PyData.canLayAll0 ps = true ∧ PyData.depthAll ps ≤ k := by
        intro ds
        induction ds with
        | nil => exact fun _ => ⟨[], rfl, by simp [PyData.canLayAll0], by simp [PyData.depthAll]⟩
        | cons d ds ih =>
          intro e
          rw [List.all_cons, Bool.and_eq_true] at e
          obtain ⟨p, h1, h2, h3⟩ := pd_pln h k d e.1
          obtain ⟨ps, g1, g2, g3⟩ := ih e.2
          exact ⟨p :: ps, pdL_cons h1 g1, by simp [PyData.canLayAll0, h2, g2], by simp [PyData.depthAll]; omega⟩
      obtain ⟨ps, h1, h2, h3⟩ := key ds e
      refine ⟨PyData.tuple ps, ?_, by simp [PyData.canLay0, h2], by simp [PyData.depth]; omega⟩
      show (pdL (pd k h) ds).map PyData.tuple = some (PyData.tuple ps)
      rw [h1]; rfl
    | bl b => cases e
    | ref n => cases e
    | fz ds => cases e
    | xv => cases e
theorem eqv_pln (h : IH) : ∀ (k : Nat) (d e : D) (p q : PyData), pln k d = true → pln k e = true → pd k h d = some p → pd k h e = some q → (PyData.eqv p q = true ↔ d = e)
  | 0, _, _, _, _, c, _, _, _ => by cases c
  | k + 1, d, e, p, q, c1, c2, e1, e2 => by
    have key : ∀ (ds es : List D) (ps qs : List PyData), ds.all (pln k) = true → es.all (pln k) = true → pdL (pd k h) ds = some ps → pdL (pd k h) es = some qs → (PyData.eqvAll ps qs = true ↔ ds = es) := by
      intro ds
      induction ds with
      | nil =>
        intro es ps qs _ c2 e1 e2
        cases e1
        cases es with
        | nil => cases e2; simp [PyData.eqvAll]
        | cons x xs =>
          unfold pdL at e2
          split at e2
          · cases e2; simp [PyData.eqvAll]
          · cases e2
      | cons d ds ih =>
        intro es ps qs c1 c2 e1 e2
        unfold pdL at e1
        split at e1
        · rename_i p0 ps0 f1 f2
          cases e1
          cases es with
          | nil => cases e2; simp [PyData.eqvAll]
          | cons x xs =>
            unfold pdL at e2
            split at e2
            · rename_i q0 qs0 g1 g2
              cases e2
              rw [List.all_cons, Bool.and_eq_true] at c1 c2
              have r1 := eqv_pln h k d x p0 q0 c1.1 c2.1 f1 g1
              have r2 := ih xs ps0 qs0 c1.2 c2.2 f2 g2
              simp only [PyData.eqvAll, Bool.and_eq_true, r1, r2, List.cons.injEq]
            · cases e2
        · cases e1
    have tup : ∀ {ds : List D} {p : PyData}, pd (k + 1) h (.tup ds) = some p → ∃ ps, pdL (pd k h) ds = some ps ∧ p = .tuple ps := fun {ds p} e => by
      obtain ⟨ps, f1, f2⟩ := Option.map_eq_some_iff.mp (show (pdL (pd k h) ds).map PyData.tuple = some p from e)
      exact ⟨ps, f1, f2.symm⟩
    cases d with
    | non =>
      cases e1
      cases e with
      | non => cases e2; simp [PyData.eqv]
      | int i => cases e2; simp [PyData.eqv]
      | str x => cases e2; simp [PyData.eqv]
      | tup ds => obtain ⟨qs, _, rfl⟩ := tup e2; simp [PyData.eqv]
      | _ => cases c2
    | int i =>
      cases e1
      cases e with
      | non => cases e2; simp [PyData.eqv]
      | int i => cases e2; simp [PyData.eqv]
      | str x => cases e2; simp [PyData.eqv]
      | tup ds => obtain ⟨qs, _, rfl⟩ := tup e2; simp [PyData.eqv]
      | _ => cases c2
    | str x =>
      cases e1
      cases e with
      | non => cases e2; simp [PyData.eqv]
      | int i => cases e2; simp [PyData.eqv]
      | str x => cases e2; simp [PyData.eqv]
      | tup ds => obtain ⟨qs, _, rfl⟩ := tup e2; simp [PyData.eqv]
      | _ => cases c2
    | tup ds =>
      obtain ⟨ps, f1, rfl⟩ := tup e1
      cases e with
      | non => cases e2; simp [PyData.eqv]
      | int i => cases e2; simp [PyData.eqv]
      | str x => cases e2; simp [PyData.eqv]
      | tup es =>
        obtain ⟨qs, g1, rfl⟩ := tup e2
        have := key ds es ps qs c1 c2 f1 g1
        simp only [PyData.eqv, this, D.tup.injEq]
      | _ => cases c2
    | _ => cases c1
theorem pln_shaped {h : IH} {d : D} (c : pln 16 d = true) : ∃ p, pd pdK h d = some p ∧ SeqAt.shaped p = true := by
  obtain ⟨p, h1, h2, h3⟩ := pd_pln h 16 d c
  refine ⟨p, h1, ?_⟩
  unfold SeqAt.shaped
  rw [h2, decide_eq_true (by omega)]
  rfl
theorem eqB_pln {h : IH} {d e : D} (c1 : pln 16 d = true) (c2 : pln 16 e = true) : ∃ b, eqB h d e = some b ∧ (b = true ↔ d = e) := by
  obtain ⟨p, h1, h2⟩ := pln_shaped (h := h) c1
  obtain ⟨q, g1, g2⟩ := pln_shaped (h := h) c2
  refine ⟨PyData.eqv p q, ?_, eqv_pln h 16 d e p q c1 c2 h1 g1⟩
  unfold eqB
  rw [h1, g1]
  exact if_pos ⟨h2, g2⟩
open Classical in
theorem eqB_pl {h : IH} {d e : D} (c1 : pln 16 d = true) (c2 : pln 16 e = true) : eqB h d e = some (decide (d = e)) := by
  obtain ⟨b, h1, h2⟩ := eqB_pln (h := h) c1 c2
  rw [h1]
  congr 1
  by_cases c : d = e
  · rw [decide_eq_true c]; exact h2.mpr c
  · rw [decide_eq_false c]
    cases b with
    | false => rfl
    | true => exact absurd (h2.mp rfl) c
open Classical in
theorem eqM_pl {h : IH} {d e : D} (c1 : pln 16 d = true) (c2 : pln 16 e = true) : eqM d e h = .ok (.bl (decide (d = e))) h := by
  unfold eqM
  rw [eqB_pl c1 c2]
open Classical in
theorem neM_pl {h : IH} {d e : D} (c1 : pln 16 d = true) (c2 : pln 16 e = true) : neM d e h = .ok (.bl (!decide (d = e))) h := by
  unfold neM
  rw [eqB_pl c1 c2]
open Classical in
theorem eqM_same {h : IH} {d : D} (c : pln 16 d = true) : eqM d d h = .ok (.bl true) h := by
  rw [eqM_pl c c, decide_eq_true rfl]
open Classical in
theorem neM_same {h : IH} {d : D} (c : pln 16 d = true) : neM d d h = .ok (.bl false) h := by
  rw [neM_pl c c, decide_eq_true rfl]; rfl
theorem shaped_list {ps : List PyData} (h1 : PyData.canLayAll0 ps = true) (h2 : PyData.depthAll ps ≤ 16) : SeqAt.shaped (.list ps) = true := by
  unfold SeqAt.shaped
  have e1 : (PyData.list ps).canLay0 = true := by simp [PyData.canLay0, h1]
  have e2 : (PyData.list ps).depth ≤ 64 := by simp [PyData.depth]; omega
  rw [e1, decide_eq_true e2]
  rfl
theorem lisOf_ref {h : IH} {n : Nat} {xs : List D} (e : h[n]? = some (.lst xs)) : lisOf h (.ref n) = some xs := by
  show (match h[n]? with
    | some (.lst ds) => some ds
    | _ => none) = _
  rw [e]
end Z
/-! Q1: plain mathematics: sizes, fractions, the steps of Euclid. -/
namespace Q
/-- of at most k bits -/
def Bit (k : Nat) (x : Int) : Prop := x.natAbs < 2 ^ k
theorem Bit.mono {j k : Nat} {x : Int} (h : Bit j x) (c : j ≤ k) : Bit k x := Nat.lt_of_lt_of_le h (Nat.pow_le_pow_right (by decide) c)
theorem Bit.mul {j k : Nat} {x y : Int} (h : Bit j x) (g : Bit k y) : Bit (j + k) (x * y) := by
  unfold Bit
  rw [Int.natAbs_mul, Nat.pow_add]
  exact Nat.mul_lt_mul'' h g
theorem Bit.neg {k : Nat} {x : Int} (h : Bit k x) : Bit k (-x) := by unfold Bit; rw [Int.natAbs_neg]; exact h
theorem Bit.add {k : Nat} {x y : Int} (h : Bit k x) (g : Bit k y) : Bit (k + 1) (x + y) := by
  unfold Bit at *
  have := Int.natAbs_add_le x y
  rw [Nat.pow_succ]
  omega
theorem Bit.sub {k : Nat} {x y : Int} (h : Bit k x) (g : Bit k y) : Bit (k + 1) (x - y) := by
  rw [Int.sub_eq_add_neg]
  exact h.add g.neg
theorem Bit.le {k : Nat} {x y : Int} (h : Bit k y) (c : x.natAbs ≤ y.natAbs) : Bit k x := Nat.lt_of_le_of_lt c h
theorem log2_lt {n k : Nat} (h : n < 2 ^ k) (hk : 0 < k) : n.log2 < k := by
  by_cases c : n = 0
  · subst c; simpa using hk
  · exact (Nat.log2_lt c).mpr h
theorem Bit.log {k : Nat} {x : Int} (h : Bit k x) (hk : 0 < k) : x.natAbs.log2 < k := log2_lt h hk
theorem bit_nat {k n : Nat} (h : n < 2 ^ k) : Bit k (n : Int) := by unfold Bit; simpa using h
theorem Bit.pos {k : Nat} {x : Int} (h0 : 0 ≤ x) (h : x < 2 ^ k) : Bit k x := by
  unfold Bit
  have e : ((2 ^ k : Nat) : Int) = 2 ^ k := by simp
  omega
theorem Bit.lt {k : Nat} {x : Int} (h : Bit k x) : x < 2 ^ k := by
  unfold Bit at h
  have e : ((2 ^ k : Nat) : Int) = 2 ^ k := by simp
  omega
/-! ### fractions -/
/-- lowest terms -/
def IsRat (p : Int × Int) : Prop := 0 < p.2 ∧ Int.gcd p.1 p.2 = 1
def red (n d : Int) : Int × Int := (n / (Int.gcd n d : Int), d / (Int.gcd n d : Int))
section
variable {n d : Int}
theorem gcd_pos (hd : d ≠ 0) : (0 : Int) < Int.gcd n d := by
  have : 0 < Int.gcd n d := Nat.gcd_pos_of_pos_right _ (by omega)
  omega
theorem red_num (hd : d ≠ 0) : (red n d).1 * (Int.gcd n d : Int) = n := Int.ediv_mul_cancel (Int.gcd_dvd_left ..)
theorem red_den (hd : d ≠ 0) : (red n d).2 * (Int.gcd n d : Int) = d := Int.ediv_mul_cancel (Int.gcd_dvd_right ..)
theorem red_eq (hd : d ≠ 0) : (red n d).1 * d = (red n d).2 * n := by
  have h1 := red_num (n := n) hd
  have h2 := red_den (n := n) hd
  calc (red n d).1 * d = (red n d).1 * ((red n d).2 * (Int.gcd n d : Int)) := by rw [h2]
    _ = (red n d).2 * ((red n d).1 * (Int.gcd n d : Int)) := by rw [← Int.mul_assoc, Int.mul_comm (red n d).1, Int.mul_assoc]
    _ = (red n d).2 * n := by rw [h1]
theorem red_rat (hd : 0 < d) : IsRat (red n d) := by
  have hd0 : d ≠ 0 := by omega
  have g := gcd_pos (n := n) hd0
  constructor
  · have h2 := red_den (n := n) hd0
    by_cases c : 0 < (red n d).2
    · exact c
    · have : (red n d).2 * (Int.gcd n d : Int) ≤ 0 := Int.mul_nonpos_of_nonpos_of_nonneg (by omega) (by omega)
      omega
  · show Int.gcd (n / _) (d / _) = 1
    have hg : 0 < Int.gcd n d := by omega
    exact Int.gcd_ediv_gcd_ediv_gcd hg
theorem red_small : (red n d).1.natAbs ≤ n.natAbs ∧ (red n d).2.natAbs ≤ d.natAbs := by
  constructor
  · show (n / _).natAbs ≤ _
    exact Int.natAbs_ediv_le_natAbs ..
  · show (d / _).natAbs ≤ _
    exact Int.natAbs_ediv_le_natAbs ..
end
theorem dvd_cop {a b c : Int} (h : a ∣ b * c) (g : Int.gcd a b = 1) : a ∣ c := by
  have h1 : a.natAbs ∣ b.natAbs * c.natAbs := by rw [← Int.natAbs_mul]; exact Int.natAbs_dvd_natAbs.mpr h
  exact Int.natAbs_dvd_natAbs.mp (Nat.Coprime.dvd_of_dvd_mul_left (show Nat.Coprime a.natAbs b.natAbs from g) h1)
/-- a fraction in lowest terms is the one -/
theorem rat_unique {p q : Int × Int} (hp : IsRat p) (hq : IsRat q) (e : p.1 * q.2 = q.1 * p.2) : p = q := by
  obtain ⟨p1, p2⟩ := p
  obtain ⟨q1, q2⟩ := q
  obtain ⟨h1, h2⟩ := hp
  obtain ⟨h3, h4⟩ := hq
  dsimp only at *
  have d1 : p2 ∣ q2 := by
    have : p2 ∣ p1 * q2 := ⟨q1, by rw [e, Int.mul_comm]⟩
    exact dvd_cop this (by rw [Int.gcd_comm]; exact h2)
  have d2 : q2 ∣ p2 := by
    have : q2 ∣ q1 * p2 := ⟨p1, by rw [← e, Int.mul_comm]⟩
    exact dvd_cop this (by rw [Int.gcd_comm]; exact h4)
  have e2 : p2 = q2 := Int.dvd_antisymm (by omega) (by omega) d1 d2
  subst e2
  have : p1 = q1 := Int.eq_of_mul_eq_mul_right (by omega) e
  rw [this]
/-! ### Euclid's steps -/
/-- as many turns are enough -/
def steps (b : Nat) : Nat := 2 * (b.log2 + 1)
theorem euclid_half {a b : Nat} (h1 : a % b ≠ 0) (hb : 0 < b) : 2 * (b % (a % b)) < b := by
  have h2 : a % b < b := Nat.mod_lt _ hb
  have h3 : b % (a % b) < a % b := Nat.mod_lt _ (by omega)
  by_cases c : 2 * (a % b) ≤ b
  · omega
  · have : b % (a % b) = b - a % b := by
      rw [Nat.mod_eq_sub_mod (by omega), Nat.mod_eq_of_lt (by omega)]
    omega
theorem log2_half {m n : Nat} (h : 2 * m < n) (hm : m ≠ 0) : m.log2 + 1 ≤ n.log2 := by
  have h1 := Nat.log2_self_le hm
  have : 2 ^ (m.log2 + 1) ≤ n := by rw [Nat.pow_succ]; omega
  exact (Nat.le_log2 (by omega)).mpr this
end Q
/-! C1L: what the common defs answer. -/
namespace Zc
open PySem L2 Z Q
theorem small_of {a b : Nat} {x y : Int} (hx : Bit a x) (hy : Bit b y) (h : a + b ≤ 900000 := by decide) (ha : 0 < a := by decide) (hb : 0 < b := by decide) : small x y := by
  have h1 := hx.log ha
  have h2 := hy.log hb
  show _ + _ < 1000000
  omega
theorem fdivM_pos {x y : Int} {h : IH} (h0 : 0 < y) {k : Nat} (c : Bit k y) (hk : k ≤ 9000 := by decide) (hk0 : 0 < k := by decide) : fdivM (.int x) (.int y) h = .ok (.int (x / y)) h := by
  rw [fdivM_int (by omega) (Nat.lt_of_lt_of_le (c.log hk0) hk), Int.fdiv_eq_ediv_of_nonneg _ (by omega)]
theorem modM_pos {x y : Int} {h : IH} (h0 : 0 < y) : modM (.int x) (.int y) h = .ok (.int (x % y)) h := by
  rw [modM_int (by omega), Int.fmod_eq_emod_of_nonneg _ (by omega)]
section
variable {h : IH} {n d : Int}
theorem ev_is_integer : F_is_integer [.int n] h = .ok (.bl true) h := by simp [F_is_integer, M_is_integer, defM]
theorem ev_law_is_integer : F__law_is_integer [.int n] h = .ok (.bl true) h := by simp [F__law_is_integer, M__law_is_integer, defM]
theorem ev_is_rational : F_is_rational [.tup [.int n, .int d]] h = .ok (.bl (decide (0 < d) && decide (Int.gcd n d = 1))) h := by
  by_cases c : 0 < d
  · simp [F_is_rational, M_is_rational, defM, ev_is_integer, c, Int.gcd]
    by_cases c2 : n.natAbs.gcd d.natAbs = 1
    · simp [c2]
    · have : ¬ ((n.natAbs.gcd d.natAbs : Nat) : Int) = 1 := by omega
      simp [c2, this]
  · simp [F_is_rational, M_is_rational, defM, ev_is_integer, c]
theorem ev_reduced {k : Nat} (hd : 0 < d) (hs : Bit k d) (hk : k ≤ 9000 := by decide) (hk0 : 0 < k := by decide) : F_reduced [.int n, .int d] h = .ok (.tup [.int (red n d).1, .int (red n d).2]) h := by
  have g0 := gcd_pos (n := n) (d := d) (by omega)
  have g1 : Bit k (Int.gcd n d : Int) := hs.le (by
    have : Int.gcd n d ≤ d.natAbs := Nat.le_of_dvd (by omega) (Nat.gcd_dvd_right ..)
    simpa using this)
  have e1 := fun x h => fdivM_pos (x := x) (h := h) g0 g1 hk hk0
  have eg : ((Nat.gcd n.natAbs d.natAbs : Nat) : Int) = (Int.gcd n d : Int) := rfl
  simp [F_reduced, M_reduced, defM, tupM_eq, eg, e1, red]
end
/-! ### Euclid in the law -/
/-- a turn's body -/
noncomputable def gcdB : MS := (seqM (ifM (btestM (binM eqM (varM 1) (constM (.int 0)))) brkM nextM)
  (parM 0 1 (aconsM (varM 1) (aconsM (binM modM (callM intF (aconsM (varM 0) anilM)) (varM 1)) anilM))))
theorem gcdB0 {a : Int} {x : Option D} {h : IH} : gcdB [some (.int a), some (.int 0), x] h = .bk [some (.int a), some (.int 0), x] h := by simp [gcdB]
theorem gcdB1 {a b : Int} {x : Option D} {h : IH} (hb : 0 < b) : gcdB [some (.int a), some (.int b), x] h = .nx [some (.int b), some (.int (a % b)), x] h := by
  have c : ¬ b = 0 := by omega
  simp [gcdB, c, modM_pos hb]
theorem gcd_mod {a b : Int} (ha : 0 ≤ a) (hb : 0 < b) : Int.gcd b (a % b) = Int.gcd a b := by
  obtain ⟨m, rfl⟩ := Int.eq_ofNat_of_zero_le ha
  obtain ⟨n, rfl⟩ := Int.eq_ofNat_of_zero_le (Int.le_of_lt hb)
  show Nat.gcd n (m % n) = Nat.gcd m n
  rw [Nat.gcd_comm n, ← Nat.gcd_rec, Nat.gcd_comm]
theorem gcdT0 {a : Int} {d : D} {ds : List D} {x : Option D} {h : IH} : forS (gnameM 2) gcdB (d :: ds) [some (.int a), some (.int 0), x] h = .nx [some (.int a), some (.int 0), some d] h := by
  rw [forS_cons, turnM_eq]
  simp [gcdB0]
theorem gcdT1 {a b : Int} {d : D} {ds : List D} {x : Option D} {h : IH} (hb : 0 < b) : forS (gnameM 2) gcdB (d :: ds) [some (.int a), some (.int b), x] h = forS (gnameM 2) gcdB ds [some (.int b), some (.int (a % b)), some d] h := by
  rw [forS_cons, turnM_eq]
  simp [gcdB1 hb]
theorem gcd_loop {h : IH} : ∀ (k : Nat) (a b : Int) (ds : List D) (x : Option D), 0 ≤ a → 0 < b → steps b.natAbs ≤ 2 * k → 2 * k ≤ ds.length →
    ∃ x', forS (gnameM 2) gcdB ds [some (.int a), some (.int b), x] h = .nx [some (.int (Int.gcd a b : Nat)), some (.int 0), x'] h
  | 0, a, b, ds, x, _, _, hs, _ => by unfold steps at hs; omega
  | k + 1, a, b, ds, x, ha, hb, hs, hl => by
    match ds, hl with
    | d1 :: d2 :: ds, hl =>
      rw [gcdT1 hb, ← gcd_mod ha hb]
      have h1 := Int.emod_nonneg a (b := b) (by omega)
      have h2 := Int.emod_lt_of_pos a hb
      by_cases c : a % b = 0
      · rw [c, gcdT0]
        exact ⟨some d2, by simp [Int.gcd]; omega⟩
      · have hb' : 0 < a % b := by omega
        rw [gcdT1 hb', ← gcd_mod (by omega) hb']
        have h3 := Int.emod_nonneg b (b := a % b) (by omega)
        by_cases c2 : b % (a % b) = 0
        · rw [c2]
          match ds with
          | [] => exact ⟨some d2, by simp [Int.gcd]; omega⟩
          | d3 :: ds => rw [gcdT0]; exact ⟨some d3, by simp [Int.gcd]; omega⟩
        · refine gcd_loop k (a % b) (b % (a % b)) ds (some d2) h1 (by omega) ?_ (by simp at hl; omega)
          have hh : (b % (a % b)).natAbs.log2 + 1 ≤ b.natAbs.log2 := by
            refine log2_half ?_ (by omega)
            obtain ⟨m, rfl⟩ := Int.eq_ofNat_of_zero_le ha
            obtain ⟨n, rfl⟩ := Int.eq_ofNat_of_zero_le (Int.le_of_lt hb)
            exact euclid_half (a := m) (b := n) (by intro z; apply c; show ((m % n : Nat) : Int) = 0; omega) (by omega)
          unfold steps at *
          omega
theorem rngD_cons {lo : Int} {n : Nat} : rngD lo (n + 1) = .int lo :: rngD (lo + 1) n := by
  unfold rngD
  rw [List.range_succ_eq_map, List.map_cons, List.map_map]
  congr 1
  · simp
  · congr 1
    funext i
    show D.int (lo + ((i + 1 : Nat) : Int)) = D.int (lo + 1 + (i : Int))
    congr 1
    omega
theorem ev_law_gcd {a b : Int} {h : IH} {k : Nat} (hb : Bit k b) (hk : k ≤ 19000 := by decide) : F__law_gcd [.int a, .int b] h = .ok (.int (Int.gcd a b : Nat)) h := by
  have ea : (if a < 0 then -a else a) = ((a.natAbs : Nat) : Int) := by split <;> omega
  have eb : (if b < 0 then -b else b) = ((b.natAbs : Nat) : Int) := by split <;> omega
  have key : ∃ x', forS (gnameM 2) gcdB (rngD 0 40000) [some (.int (a.natAbs : Nat)), some (.int (b.natAbs : Nat)), none] h = .nx [some (.int (Int.gcd a b : Nat)), some (.int 0), x'] h := by
    by_cases c : b.natAbs = 0
    · rw [c, show (40000 : Nat) = 39999 + 1 from rfl, rngD_cons]
      have : b = 0 := by omega
      subst this
      refine ⟨some (.int 0), gcdT0.trans ?_⟩
      simp [Int.gcd]
    · have := gcd_loop (h := h) 19002 (a.natAbs : Int) (b.natAbs : Int) (rngD 0 40000) none (by omega) (by omega) (by
        have := log2_lt (n := b.natAbs) (k := k + 1) (Nat.lt_of_lt_of_le hb (Nat.pow_le_pow_right (by decide) (by omega))) (by omega)
        unfold steps
        simp only [Int.natAbs_natCast]
        omega) (by rw [rngD_length]; decide)
      rw [show Int.gcd (a.natAbs : Int) (b.natAbs : Int) = Int.gcd a b by simp [Int.gcd]] at this
      exact this
  obtain ⟨x', key⟩ := key
  unfold gcdB at key
  simp only [F__law_gcd, M__law_gcd, defM, seqM_eq, setM_eq, callM_eq, aconsM_eq, anilM_eq, varM_eq, constM_eq, List.map, List.length, List.cons_append, List.nil_append, List.append, List.replicate, List.getElem?_cons_zero, List.getElem?_cons_succ, R.bindG_ok, absF_int, ea, eb, List.set, forM_eq, rngI1_eq]
  rw [if_pos (rng_of (by decide) (by decide))]
  simp only [R.bindG_ok]
  rw [show (40000 : Int).toNat = 40000 from rfl, key]
  simp
end Zc
/-! C1N: the law's draws. -/
namespace Zc
open PySem L2 Z Q
/-- a stream stands at s, with at most n cells taken -/
def Strm (n : Nat) (h : IH) (s : Nat) : Prop := ∃ (l : Nat) (ns : List Int) (c k : Int), h[s]? = some (.lst [.ref l, .int c, .int k]) ∧ h[l]? = some (.lst (ns.map .int)) ∧ s ≠ l ∧ 0 ≤ c ∧ 0 ≤ k ∧ k ≤ n
/-- what a draw leaves: the stream, all else as it was -/
structure Drew (n : Nat) (h : IH) (s : Nat) (h' : IH) : Prop where
  st : Strm (n + 1) h' s
  len : h'.length = h.length
  keep : ∀ i, i ≠ s → h'[i]? = h[i]?
theorem Drew.get {n : Nat} {h h' : IH} {s : Nat} (w : Drew n h s h') {i : Nat} {o : IO} (e : h[i]? = some o) (ne : i ≠ s) : h'[i]? = some o := (w.keep i ne).trans e
theorem Strm.app {n : Nat} {h g : IH} {s : Nat} (w : Strm n h s) : Strm n (h ++ g) s := by
  obtain ⟨l, ns, c, k, h1, h2, h3⟩ := w
  have e : ∀ {i : Nat} {o : IO}, h[i]? = some o → (h ++ g)[i]? = some o := fun {i o} z => by
    rw [List.getElem?_append_left (List.getElem?_eq_some_iff.mp z).1]; exact z
  exact ⟨l, ns, c, k, e h1, e h2, h3⟩
theorem Strm.lt {n : Nat} {h : IH} {s : Nat} (w : Strm n h s) : s < h.length := by
  obtain ⟨l, ns, c, k, h1, _⟩ := w
  exact (List.getElem?_eq_some_iff.mp h1).1
theorem Strm.mono {n m : Nat} {h : IH} {s : Nat} (w : Strm n h s) (c : n ≤ m) : Strm m h s := by
  obtain ⟨l, ns, c', k, h1, h2, h3, h4, h5, h6⟩ := w
  exact ⟨l, ns, c', k, h1, h2, h3, h4, h5, by omega⟩
theorem Strm.set {n : Nat} {h : IH} {s i : Nat} {o : IO} (w : Strm n h s) (hi : i ≠ s) (hl : ∀ ns : List Int, h[i]? ≠ some (.lst (ns.map .int))) : Strm n (h.set i o) s := by
  obtain ⟨l, ns, c', k, h1, h2, h3⟩ := w
  exact ⟨l, ns, c', k, by rw [List.getElem?_set_ne hi]; exact h1, by rw [List.getElem?_set_ne (by rintro rfl; exact hl _ h2)]; exact h2, h3⟩
theorem set_get {h : IH} {i : Nat} {o o' : IO} (e : h[i]? = some o) : (h.set i o')[i]? = some o' := List.getElem?_set_self (List.getElem?_eq_some_iff.mp e).1
@[simp] theorem ixN_1 {a b : Nat} : ixN (a + 1 + 1) 1 = some 1 := by
  unfold ixN
  rw [if_pos (by decide), if_pos (by omega)] <;> rfl
@[simp] theorem ixN_2 {a : Nat} : ixN (a + 1 + 1 + 1) 2 = some 2 := by
  unfold ixN
  rw [if_pos (by decide), if_pos (by omega)] <;> rfl
noncomputable def nextA : MS := (ifM (btestM (binM eqM (binM ixM (varM 0) (constM (.int 1))) (constM (.int 0)))) (seqM (setM 3 (binM ixM (varM 0) (constM (.int 2))))
  (seqM (setM 4 (binM addM (constM (.int 7)) (varM 3)))
  (seqM (ifM (btestM (binM ltM (varM 3) (callM lenF (aconsM (binM ixM (varM 0) (constM (.int 0))) anilM)))) (setM 4 (callM absF (aconsM (binM ixM (binM ixM (varM 0) (constM (.int 0))) (varM 3)) anilM))) nextM)
  (seqM (ifM (btestM (binM ltM (varM 4) (binM powM (constM (.int 10)) (constM (.int 18))))) (seqM (setM 4 (binM modM (callM intF (aconsM (binM addM (binM addM (binM mulM (varM 4) (constM (.int 48271))) (binM mulM (varM 3) (constM (.int 69621)))) (constM (.int 11))) anilM)) (constM (.int 2147483647))))
  (setM 4 (binM addM (binM mulM (binM modM (callM intF (aconsM (binM addM (binM mulM (varM 4) (constM (.int 16807))) (constM (.int 13))) anilM)) (constM (.int 2147483647))) (constM (.int 65537))) (varM 4)))) nextM)
  (seqM (putM setL (varM 0) (constM (.int 1)) (varM 4))
  (putM setL (varM 0) (constM (.int 2)) (binM addM (varM 3) (constM (.int 1))))))))) nextM)
noncomputable def nextB : MS := (seqM (setM 2 (binM modM (callM intF (aconsM (binM ixM (varM 0) (constM (.int 1))) anilM)) (varM 1)))
  (seqM (putM setL (varM 0) (constM (.int 1)) (binM fdivM (binM ixM (varM 0) (constM (.int 1))) (varM 1)))
  (retM (varM 2))))
theorem next_is : M__law_next = seqM nextA nextB := rfl
theorem nextB_ev {h : IH} {s l : Nat} {c k m : Int} {x y z : Option D} (h1 : h[s]? = some (.lst [.ref l, .int c, .int k])) (hm : 0 < m) {b : Nat} (hb : Bit b m) (hb9 : b ≤ 9000) (hb0 : 0 < b) :
    nextB [some (.ref s), some (.int m), x, y, z] h = .rt (.int (c % m)) (h.set s (.lst [.ref l, .int (c / m), .int k])) := by
  have e1 := fun x h => fdivM_pos (x := x) (h := h) hm hb hb9 hb0
  simp [nextB, ixM_ref h1, modM_pos hm, e1, setL_ref h1, ixN]
theorem nextA_no {h : IH} {s l : Nat} {c k : Int} {x y z u : Option D} (h1 : h[s]? = some (.lst [.ref l, .int c, .int k])) (hc : c ≠ 0) :
    nextA [some (.ref s), x, y, z, u] h = .nx [some (.ref s), x, y, z, u] h := by
  simp [nextA, ixM_ref h1, hc]
/-- a cell turned into the one that is used -/
theorem mix_ev {h : IH} {cell k : Int} {a x y : Option D} (h0 : 0 ≤ cell) (hk : 0 ≤ k) (hk2 : k ≤ 1000000000) :
    ∃ cell', 0 ≤ cell' ∧ (ifM (btestM (binM ltM (varM 4) (binM powM (constM (.int 10)) (constM (.int 18))))) (seqM (setM 4 (binM modM (callM intF (aconsM (binM addM (binM addM (binM mulM (varM 4) (constM (.int 48271))) (binM mulM (varM 3) (constM (.int 69621)))) (constM (.int 11))) anilM)) (constM (.int 2147483647))))
  (setM 4 (binM addM (binM mulM (binM modM (callM intF (aconsM (binM addM (binM mulM (varM 4) (constM (.int 16807))) (constM (.int 13))) anilM)) (constM (.int 2147483647))) (constM (.int 65537))) (varM 4)))) nextM) [a, x, y, some (.int k), some (.int cell)] h = .nx [a, x, y, some (.int k), some (.int cell')] h := by
  have p18 := powM_int (x := 10) (y := 18) (h := h) (by decide)
  by_cases c : cell < 10 ^ 18
  · have s1 : small cell 48271 := small_of (a := 64) (b := 64) (Bit.pos h0 (by omega)) (Bit.pos (by decide) (by decide))
    have s2 : small k 69621 := small_of (a := 64) (b := 64) (Bit.pos hk (by omega)) (Bit.pos (by decide) (by decide))
    have n1 := Int.emod_nonneg (cell * 48271 + k * 69621 + 11) (b := 2147483647) (by decide)
    have n2 := Int.emod_lt_of_pos (cell * 48271 + k * 69621 + 11) (b := 2147483647) (by decide)
    have s3 : small ((cell * 48271 + k * 69621 + 11) % 2147483647) 16807 := small_of (a := 64) (b := 64) (Bit.pos n1 (by omega)) (Bit.pos (by decide) (by decide))
    have n3 := Int.emod_nonneg ((cell * 48271 + k * 69621 + 11) % 2147483647 * 16807 + 13) (b := 2147483647) (by decide)
    have n4 := Int.emod_lt_of_pos ((cell * 48271 + k * 69621 + 11) % 2147483647 * 16807 + 13) (b := 2147483647) (by decide)
    have s4 : small (((cell * 48271 + k * 69621 + 11) % 2147483647 * 16807 + 13) % 2147483647) 65537 := small_of (a := 64) (b := 64) (Bit.pos n3 (by omega)) (Bit.pos (by decide) (by decide))
    refine ⟨((cell * 48271 + k * 69621 + 11) % 2147483647 * 16807 + 13) % 2147483647 * 65537 + (cell * 48271 + k * 69621 + 11) % 2147483647, by omega, ?_⟩
    simp only [ifM_eq, btestM_eq, binM_eq, varM_eq, List.getElem?_cons_succ, List.getElem?_cons_zero, R.bindG_ok, constM_eq, p18, ltM_int, seqM_eq, setM_eq, callM_eq, aconsM_eq, anilM_eq, intF_int, addM_int, List.set, mulM_int s1, mulM_int s2, modM_pos (show (0:Int) < 2147483647 by decide), mulM_int s3, mulM_int s4]
    simp only [show (18 : Int).toNat = 18 from rfl, c, decide_true, if_true]
  · refine ⟨cell, h0, ?_⟩
    simp only [ifM_eq, btestM_eq, binM_eq, varM_eq, List.getElem?_cons_succ, List.getElem?_cons_zero, R.bindG_ok, constM_eq, p18, ltM_int, nextM_eq]
    simp only [show (18 : Int).toNat = 18 from rfl, c, decide_false, Bool.false_eq_true, if_false]
theorem nextA_yes {h : IH} {s l : Nat} {ns : List Int} {k : Int} {x y z u : Option D} (h1 : h[s]? = some (.lst [.ref l, .int 0, .int k])) (h2 : h[l]? = some (.lst (ns.map .int))) (ne : s ≠ l) (hk : 0 ≤ k) (hk2 : k ≤ 1000000000) :
    ∃ c z' u', 0 ≤ c ∧ nextA [some (.ref s), x, y, z, u] h = .nx [some (.ref s), x, y, z', u'] (h.set s (.lst [.ref l, .int c, .int (k + 1)])) := by
  have fin : ∀ cell : Int, 0 ≤ cell → ∃ c z' u', 0 ≤ c ∧ (seqM (ifM (btestM (binM ltM (varM 4) (binM powM (constM (.int 10)) (constM (.int 18))))) (seqM (setM 4 (binM modM (callM intF (aconsM (binM addM (binM addM (binM mulM (varM 4) (constM (.int 48271))) (binM mulM (varM 3) (constM (.int 69621)))) (constM (.int 11))) anilM)) (constM (.int 2147483647))))
  (setM 4 (binM addM (binM mulM (binM modM (callM intF (aconsM (binM addM (binM mulM (varM 4) (constM (.int 16807))) (constM (.int 13))) anilM)) (constM (.int 2147483647))) (constM (.int 65537))) (varM 4)))) nextM)
  (seqM (putM setL (varM 0) (constM (.int 1)) (varM 4))
  (putM setL (varM 0) (constM (.int 2)) (binM addM (varM 3) (constM (.int 1)))))) [some (.ref s), x, y, some (.int k), some (.int cell)] h = .nx [some (.ref s), x, y, z', u'] (h.set s (.lst [.ref l, .int c, .int (k + 1)])) := fun cell h0 => by
    obtain ⟨c', h3, h4⟩ := mix_ev (h := h) (cell := cell) (k := k) (a := some (.ref s)) (x := x) (y := y) h0 hk hk2
    refine ⟨c', some (.int k), some (.int c'), h3, ?_⟩
    have h5 : (h.set s (.lst [.ref l, .int c', .int k]))[s]? = some (.lst [.ref l, .int c', .int k]) := set_get h1
    rw [seqM_eq, h4]
    simp [setL_ref h1, setL_ref h5, List.set_set, ixN]
  by_cases c : k < ns.length
  · have ek : atI (ns.map D.int) k = some (.int (ns[k.toNat]'(by omega))) := by
      have : ((k.toNat : Nat) : Int) = k := by omega
      conv => lhs; rw [← this]
      exact atI_of (by simp)
    have habs : (0 : Int) ≤ (if ns[k.toNat]'(by omega) < 0 then -(ns[k.toNat]'(by omega)) else ns[k.toNat]'(by omega)) := by split <;> omega
    obtain ⟨c', z', u', h3, h4⟩ := fin _ habs
    refine ⟨c', z', u', h3, ?_⟩
    rw [← h4]
    have lm : (ns.map D.int).length = ns.length := by simp
    simp only [nextA, ifM_eq, btestM_eq, binM_eq, varM_eq, List.getElem?_cons_succ, List.getElem?_cons_zero, R.bindG_ok, constM_eq, ixM_ref h1, atI_0, atI_1, atI_2, eqM_int, decide_true, if_true, seqM_eq, setM_eq, List.set, addM_int, callM_eq, aconsM_eq, anilM_eq, lenF_ref h2, ltM_int, lm, c, ixM_ref h2, ek, absF_int]
  · obtain ⟨c', z', u', h3, h4⟩ := fin (7 + k) (by omega)
    refine ⟨c', z', u', h3, ?_⟩
    rw [← h4]
    have lm : (ns.map D.int).length = ns.length := by simp
    simp only [nextA, ifM_eq, btestM_eq, binM_eq, varM_eq, List.getElem?_cons_succ, List.getElem?_cons_zero, R.bindG_ok, constM_eq, ixM_ref h1, atI_0, atI_1, atI_2, eqM_int, decide_true, if_true, seqM_eq, setM_eq, List.set, addM_int, callM_eq, aconsM_eq, anilM_eq, lenF_ref h2, ltM_int, lm, c, decide_false, Bool.false_eq_true, if_false, nextM_eq]
theorem ev_stream {ds : List Int} {h : IH} : F__law_stream [.fz (ds.map .int)] h = .ok (.ref (h.length + 1)) (h ++ [.lst (ds.map .int), .lst [.ref h.length, .int 0, .int 0]]) := by
  simp [F__law_stream, M__law_stream, defM, lstM_eq, newL_eq]
  exact trunc_new (by omega)
end Zc
/-! C2L: rationals: the common defs over Rat. -/
namespace Zc
open PySem L2 Z Q
/-- a rational, as the program has it -/
def dr (r : Rat) : D := .tup [.int r.num, .int (r.den : Int)]
theorem red_divInt {n d : Int} (hd : 0 < d) : red n d = ((Rat.divInt n d).num, ((Rat.divInt n d).den : Int)) := by
  have h0 : d ≠ 0 := by omega
  have dp : 0 < ((Rat.divInt n d).den : Int) := by
    have := (Rat.divInt n d).den_pos
    omega
  refine rat_unique (red_rat hd) ⟨dp, ?_⟩ ?_
  · have := (Rat.divInt n d).reduced
    exact this
  · have h1 := red_eq (n := n) h0
    have h2 : (Rat.divInt n d).num * d = n * ((Rat.divInt n d).den : Int) := (Rat.divInt_eq_divInt_iff (by omega) h0).mp (Rat.num_divInt_den _)
    refine Int.eq_of_mul_eq_mul_right h0 ?_
    dsimp only
    calc (red n d).1 * ((Rat.divInt n d).den : Int) * d = ((red n d).1 * d) * ((Rat.divInt n d).den : Int) := by ac_rfl
      _ = (red n d).2 * (n * ((Rat.divInt n d).den : Int)) := by rw [h1]; ac_rfl
      _ = (Rat.divInt n d).num * (red n d).2 * d := by rw [← h2]; ac_rfl
/-- sizes -/
structure RB (k : Nat) (r : Rat) : Prop where
  n : Bit k r.num
  d : Bit k (r.den : Int)
theorem RB.divInt {k : Nat} {n d : Int} (hn : Bit k n) (hd : Bit k d) (h0 : d ≠ 0) : RB k (Rat.divInt n d) := by
  by_cases c : 0 < d
  · have e := red_divInt (n := n) c
    have s := red_small (n := n) (d := d)
    rw [e] at s
    exact ⟨hn.le s.1, hd.le s.2⟩
  · have e := red_divInt (n := -n) (d := -d) (by omega)
    have s := red_small (n := -n) (d := -d)
    rw [e, Rat.neg_divInt_neg] at s
    exact ⟨hn.neg.le s.1, hd.neg.le s.2⟩
theorem den_ne {r : Rat} : (r.den : Int) ≠ 0 := by
  have := r.den_pos
  omega
theorem den_pos' {r : Rat} : 0 < (r.den : Int) := by
  have := r.den_pos
  omega
theorem add_is {a b : Rat} : a + b = Rat.divInt (a.num * b.den + b.num * a.den) (a.den * b.den) := by
  conv => lhs; rw [← Rat.num_divInt_den a, ← Rat.num_divInt_den b]
  exact Rat.divInt_add_divInt _ _ den_ne den_ne
theorem sub_is {a b : Rat} : a - b = Rat.divInt (a.num * b.den - b.num * a.den) (a.den * b.den) := by
  conv => lhs; rw [← Rat.num_divInt_den a, ← Rat.num_divInt_den b]
  exact Rat.divInt_sub_divInt _ _ den_ne den_ne
theorem mul_is {a b : Rat} : a * b = Rat.divInt (a.num * b.num) (a.den * b.den) := by
  conv => lhs; rw [← Rat.num_divInt_den a, ← Rat.num_divInt_den b]
  exact Rat.divInt_mul_divInt _ _
theorem RB.add {k l : Nat} {a b : Rat} (ha : RB k a) (hb : RB l b) : RB (k + l + 1) (a + b) := by
  rw [add_is]
  refine RB.divInt ?_ ((ha.d.mul hb.d).mono (by omega)) (Int.mul_ne_zero den_ne den_ne)
  have h1 := ha.n.mul hb.d
  have h2 := hb.n.mul ha.d
  rw [Nat.add_comm l k] at h2
  exact h1.add h2
theorem RB.sub {k l : Nat} {a b : Rat} (ha : RB k a) (hb : RB l b) : RB (k + l + 1) (a - b) := by
  rw [sub_is]
  refine RB.divInt ?_ ((ha.d.mul hb.d).mono (by omega)) (Int.mul_ne_zero den_ne den_ne)
  have h1 := ha.n.mul hb.d
  have h2 := (hb.n.mul ha.d).neg
  rw [Nat.add_comm l k] at h2
  exact h1.add h2
theorem RB.mul {k l : Nat} {a b : Rat} (ha : RB k a) (hb : RB l b) : RB (k + l) (a * b) := by
  rw [mul_is]
  exact RB.divInt (ha.n.mul hb.n) (ha.d.mul hb.d) (Int.mul_ne_zero den_ne den_ne)
theorem RB.neg {k : Nat} {a : Rat} (ha : RB k a) : RB k (-a) := ⟨ha.n.neg, ha.d⟩
theorem RB.mono {k l : Nat} {a : Rat} (ha : RB k a) (c : k ≤ l) : RB l a := ⟨ha.n.mono c, ha.d.mono c⟩
section
variable {h : IH} {n d : Int} {a b : Rat} {k l : Nat}
theorem ev_reducedR (hd : 0 < d) (hs : Bit k d) (hk : k ≤ 9000 := by decide) (hk0 : 0 < k := by decide) : F_reduced [.int n, .int d] h = .ok (dr (Rat.divInt n d)) h := by
  rw [ev_reduced hd hs hk hk0, red_divInt hd] <;> rfl
theorem fdiv_neg_of {g m : Int} (hg : 0 < g) : (m * g).fdiv (-g) = -m := by
  have : m * g = (-m) * (-g) := by rw [Int.neg_mul_neg]
  rw [this, Int.mul_fdiv_cancel _ (by omega)]
theorem ev_law_lowR (hd : d ≠ 0) (hs : Bit k d) (hk : k ≤ 9000 := by decide) (hk0 : 0 < k := by decide) : F__law_low [.int n, .int d] h = .ok (dr (Rat.divInt n d)) h := by
  have g0 := gcd_pos (n := n) (d := d) hd
  have gB : Bit k (Int.gcd n d : Int) := hs.le (by
    have : Int.gcd n d ≤ d.natAbs := Nat.le_of_dvd (by omega) (Nat.gcd_dvd_right ..)
    simpa using this)
  have eg := ev_law_gcd (a := n) (b := d) (h := h) hs (by omega)
  by_cases c : 0 < d
  · have e1 := fun x h => fdivM_pos (x := x) (h := h) g0 gB hk hk0
    have c' : ¬ d < 0 := by omega
    simp [F__law_low, M__law_low, defM, eg, c', tupM_eq, e1]
    show D.tup [D.int (red n d).1, D.int (red n d).2] = _
    rw [red_divInt c] <;> rfl
  · have c' : d < 0 := by omega
    have e1 := fun x h => fdivM_int (x := x) (y := -(Int.gcd n d : Int)) (h := h) (by omega) (by rw [Int.natAbs_neg]; exact Nat.lt_of_lt_of_le (gB.log hk0) hk)
    simp [F__law_low, M__law_low, defM, eg, c', tupM_eq, e1]
    have z : ∀ x : Int, (Int.gcd n d : Int) ∣ x → x.fdiv (-(Int.gcd n d : Int)) = (-x) / (Int.gcd n d : Int) := fun x hx => by
      obtain ⟨m, rfl⟩ := hx
      rw [Int.mul_comm, fdiv_neg_of g0, ← Int.neg_mul, Int.mul_ediv_cancel _ (by omega)]
    rw [z n (Int.gcd_dvd_left ..), z d (Int.gcd_dvd_right ..)]
    have q : red (-n) (-d) = ((-n) / (Int.gcd n d : Int), (-d) / (Int.gcd n d : Int)) := by
      unfold red
      rw [Int.gcd_neg, Int.neg_gcd]
    have q2 := red_divInt (n := -n) (d := -d) (by omega)
    rw [Rat.neg_divInt_neg, q] at q2
    have q3 := congrArg Prod.fst q2
    have q4 := congrArg Prod.snd q2
    dsimp only at q3 q4
    rw [q3, q4] <;> rfl
theorem ixM_tup2_0 {x y : D} : ixM (.tup [x, y]) (.int 0) h = .ok x h := by simp
@[simp] theorem okV_dr : okV h (dr a) = .ok (dr a) h := rfl
@[simp] theorem tyN_dr : tyN h (dr a) = some "tuple" := rfl
@[simp] theorem ixM_dr0 : ixM (dr a) (.int 0) h = .ok (.int a.num) h := ixM_tup2_0
@[simp] theorem ixM_dr1 : ixM (dr a) (.int 1) h = .ok (.int (a.den : Int)) h := by simp [dr]
theorem ev_plus (ha : RB k a) (hb : RB l b) (hk : k + l ≤ 9000 := by decide) (h0 : 0 < k := by decide) (h1 : 0 < l := by decide) : F_plus [dr a, dr b] h = .ok (dr (a + b)) h := by
  have s1 := small_of ha.n hb.d (by omega) h0 h1
  have s2 := small_of ha.d hb.n (by omega) h0 h1
  have s3 := small_of ha.d hb.d (by omega) h0 h1
  have e := ev_reducedR (h := h) (n := a.num * b.den + a.den * b.num) (d := a.den * b.den) (Int.mul_pos den_pos' den_pos') (ha.d.mul hb.d) hk (by omega)
  rw [add_is, Int.mul_comm b.num]
  simp [F_plus, M_plus, defM, ixM_dr0, ixM_dr1, mulM_int s1, mulM_int s2, mulM_int s3, e]
theorem ev_times (ha : RB k a) (hb : RB l b) (hk : k + l ≤ 9000 := by decide) (h0 : 0 < k := by decide) (h1 : 0 < l := by decide) : F_times [dr a, dr b] h = .ok (dr (a * b)) h := by
  have s1 := small_of ha.n hb.n (by omega) h0 h1
  have s3 := small_of ha.d hb.d (by omega) h0 h1
  have e := ev_reducedR (h := h) (n := a.num * b.num) (d := a.den * b.den) (Int.mul_pos den_pos' den_pos') (ha.d.mul hb.d) hk (by omega)
  rw [mul_is]
  simp [F_times, M_times, defM, ixM_dr0, ixM_dr1, mulM_int s1, mulM_int s3, e]
theorem ev_less (ha : RB k a) (hb : RB l b) (hk : k + l ≤ 9000 := by decide) (h0 : 0 < k := by decide) (h1 : 0 < l := by decide) : F_less [dr a, dr b] h = .ok (.bl (decide (a < b))) h := by
  have s1 := small_of ha.n hb.d (by omega) h0 h1
  have s3 := small_of ha.d hb.n (by omega) h0 h1
  simp [F_less, M_less, defM, ixM_dr0, ixM_dr1, mulM_int s1, mulM_int s3, Rat.lt_iff, Int.mul_comm (a.den : Int)]
theorem ev_law_times (ha : RB k a) (hb : RB l b) (hk : k + l ≤ 9000 := by decide) (h0 : 0 < k := by decide) (h1 : 0 < l := by decide) : F__law_times [dr a, dr b] h = .ok (dr (a * b)) h := by
  have s1 := small_of ha.n hb.n (by omega) h0 h1
  have s3 := small_of ha.d hb.d (by omega) h0 h1
  have e := ev_law_lowR (h := h) (n := a.num * b.num) (d := a.den * b.den) (Int.mul_ne_zero den_ne den_ne) (ha.d.mul hb.d) hk (by omega)
  rw [mul_is]
  simp [F__law_times, M__law_times, defM, ixM_dr0, ixM_dr1, mulM_int s1, mulM_int s3, e]
end
end Zc
/-! C2E: the law's own ==. -/
namespace Zc
open PySem L2 Z Q
theorem eqr_succ {k : Nat} {ds : List D} {h : IH} : F__law_equal_r (k + 1) ds h = defM 3 (M__law_equal (F__law_equal_r k)) ds h := rfl
section
variable {h : IH} {k : Nat} {i j : Int} {b c : Bool}
theorem eq_int : F__law_equal_r (k + 1) [.int i, .int j] h = .ok (.bl (decide (i = j))) h := by
  rw [eqr_succ]
  simp [M__law_equal, defM, ev_law_is_integer]
theorem lcS_all {g : MG} {me : ME} {env : Ev} : ∀ {ds : List D}, (∀ d ∈ ds, ∃ e, g d env = some e ∧ me e h = .ok (.bl true) h) → lcS g yesM me env ds h = .ok (ds.map fun _ => .bl true) h
  | [], _ => rfl
  | d :: ds, H => by
    obtain ⟨e, h1, h2⟩ := H d (List.mem_cons_self ..)
    have ih := lcS_all (g := g) (me := me) (env := env) (ds := ds) fun d hd => H d (List.mem_cons_of_mem _ hd)
    unfold lcS
    rw [h1]
    dsimp only [yesM, R.bindG_ok]
    rw [if_pos rfl, h2]
    simp only [R.bindG_ok, R.bind]
    rw [ih]
    rfl
theorem bls_true {α : Type} : ∀ {ds : List α}, bls (ds.map fun _ => .bl true) = some (ds.map fun _ => true)
  | [] => rfl
  | d :: ds => by
    show (match D.bl true, bls (ds.map fun _ => .bl true) with
      | .bl b, some bs => some (b :: bs)
      | _, _ => none) = _
    rw [bls_true (ds := ds)]
    rfl
theorem rngD_mem {d : D} {lo : Int} {n : Nat} (hd : d ∈ rngD lo n) : ∃ i : Nat, i < n ∧ d = .int (lo + (i : Int)) := by
  unfold rngD at hd
  obtain ⟨i, h1, h2⟩ := List.mem_map.mp hd
  exact ⟨i, List.mem_range.mp h1, h2.symm⟩
theorem rngD_length {lo : Int} {n : Nat} : (rngD lo n).length = n := by simp [rngD]
theorem rngI1_int {j : Int} {ms : MA} {env : Ev} {h' : IH} {n : Nat} (e : ms env h = .ok [.int j] h') (hj : j.toNat = n) (h0 : 0 ≤ j) (h1 : j ≤ 1000000000) : rngI1 ms env h = .ok (.snap (rngD 0 n)) h' := by
  have h2 : -(2 ^ 62) ≤ j := by omega
  have h3 : j < 2 ^ 62 := by omega
  rw [rngI1_eq, e]
  simp only [R.bindG_ok]
  rw [if_pos (rng_of h2 h3), hj]
theorem rngI1_nat {ms : MA} {env : Ev} {h' : IH} {n : Nat} (e : ms env h = .ok [.int (n : Int)] h') (hn : n ≤ 16777215) : rngI1 ms env h = .ok (.snap (rngD 0 n)) h' :=
  rngI1_int e (Int.toNat_natCast n) (by omega) (by omega)
theorem eq_all {x y : D} {f : MF} {n : Nat} (hz : n ≤ 16777215) (hy : lenF [y] h = .ok (.int (n : Int)) h) (vx : okV h x = .ok x h) (vy : okV h y = .ok y h)
    (H : ∀ i, i < n → ∃ a b, ixM x (.int (i : Int)) h = .ok a h ∧ ixM y (.int (i : Int)) h = .ok b h ∧ f [a, b] h = .ok (.bl true) h) :
    lcM (rngI1 (aconsM (callM lenF (aconsM (varM 1) anilM)) anilM)) [2] (gnameM 2) yesM (callM f (aconsM (binM ixM (varM 0) (varM 2)) (aconsM (binM ixM (varM 1) (varM 2)) anilM))) [some x, some y, none] h = .ok (.ref h.length) (h ++ [.lst ((rngD 0 n).map fun _ => .bl true)]) := by
  have e1 : rngI1 (aconsM (callM lenF (aconsM (varM 1) anilM)) anilM) [some x, some y, none] h = .ok (.snap (rngD 0 n)) h := rngI1_nat (by simp [vy, hy]) hz
  have e2 : lcS (gnameM 2) yesM (callM f (aconsM (binM ixM (varM 0) (varM 2)) (aconsM (binM ixM (varM 1) (varM 2)) anilM))) [some x, some y, none] (rngD 0 n) h = .ok ((rngD 0 n).map fun _ => .bl true) h := by
    refine lcS_all fun d hd => ?_
    obtain ⟨i, hi, rfl⟩ := rngD_mem hd
    obtain ⟨a, b, h1, h2, h3⟩ := H i hi
    refine ⟨_, rfl, ?_⟩
    simp [gnameM, vx, vy, h1, h2, h3]
  unfold lcM
  rw [e1]
  have hm : n ≤ MOST := by unfold MOST; exact hz
  simp only [R.bindG_ok, R.bind, rngD_length, hm, if_true, wipeE, List.set]
  rw [e2]
  simp only [R.bindG_ok, newL_eq]
theorem all_true {α : Type} {ds : List α} : allF [.ref h.length] (h ++ [.lst (ds.map fun _ => .bl true)]) = .ok (.bl true) (h ++ [.lst (ds.map fun _ => .bl true)]) := by
  have e : lisOf (h ++ [IO.lst (ds.map fun _ => .bl true)]) (.ref h.length) = some (ds.map fun _ => .bl true) := by simp [lisOf]
  unfold allF
  simp [e, bls_true]
theorem atI_nat' {xs : List D} {i : Nat} (h1 : i < xs.length) : atI xs (i : Int) = some xs[i] := atI_of (List.getElem?_eq_getElem h1)
theorem eq_tup {xs ys : List D} (hl : xs.length = ys.length) (hz : ys.length ≤ 16777215) (H : ∀ i (h1 : i < xs.length) (h2 : i < ys.length), F__law_equal_r k [xs[i], ys[i]] h = .ok (.bl true) h) : F__law_equal_r (k + 1) [.tup xs, .tup ys] h = .ok (.bl true) h := by
  rw [eqr_succ]
  have e := eq_all (h := h) (x := .tup xs) (y := .tup ys) (f := F__law_equal_r k) (n := ys.length) hz rfl rfl rfl fun i hi => ⟨xs[i], ys[i], by simp [ixM, atI_nat' (xs := xs) (i := i) (by omega)], by simp [ixM, atI_nat' hi], H i _ hi⟩
  have e2 := all_true (h := h) (ds := rngD 0 ys.length)
  simp [M__law_equal, defM, hl, e, e2]
  exact trunc_app rfl
theorem eq_ref {n m : Nat} {xs ys : List D} (hn : h[n]? = some (.lst xs)) (hm : h[m]? = some (.lst ys)) (hl : xs.length = ys.length) (hz : ys.length ≤ 16777215) (H : ∀ i (h1 : i < xs.length) (h2 : i < ys.length), F__law_equal_r k [xs[i], ys[i]] h = .ok (.bl true) h) : F__law_equal_r (k + 1) [.ref n, .ref m] h = .ok (.bl true) h := by
  rw [eqr_succ]
  have e := eq_all (h := h) (x := .ref n) (y := .ref m) (f := F__law_equal_r k) (n := ys.length) hz (lenF_ref hm) rfl rfl fun i hi => ⟨xs[i], ys[i], by rw [ixM_ref hn]; simp [atI_nat' (xs := xs) (i := i) (by omega)], by rw [ixM_ref hm]; simp [atI_nat' hi], H i _ hi⟩
  have e2 := all_true (h := h) (ds := rngD 0 ys.length)
  simp [M__law_equal, defM, tyN_ref hn, tyN_ref hm, lenF_ref hn, lenF_ref hm, hl, e, e2]
  exact trunc_app rfl
theorem zip_of {α β : Type} {P : α → β → Prop} {xs : List α} {ys : List β} (H : ∀ p ∈ xs.zip ys, P p.1 p.2) (i : Nat) (h1 : i < xs.length) (h2 : i < ys.length) : P xs[i] ys[i] := by
  have : (xs[i], ys[i]) ∈ xs.zip ys := by
    have e : (xs.zip ys)[i]'(by simp; omega) = (xs[i], ys[i]) := by simp
    rw [← e]
    exact List.getElem_mem _
  exact H _ this
theorem eq_tupZ {xs ys : List D} (hl : xs.length = ys.length) (hz : ys.length ≤ 16777215) (H : ∀ p ∈ xs.zip ys, F__law_equal_r k [p.1, p.2] h = .ok (.bl true) h) : F__law_equal_r (k + 1) [.tup xs, .tup ys] h = .ok (.bl true) h := eq_tup hl hz fun i h1 h2 => zip_of (P := fun x y => F__law_equal_r k [x, y] h = .ok (.bl true) h) H i h1 h2
@[simp] theorem isM_bn {n b : Bool} : isM n (.bl b) .non h = .ok (.bl n) h := rfl
theorem three {h : IH} (e : h.length = 3) : ∃ a b c, h = [a, b, c] := by
  match h, e with
  | [a, b, c], _ => exact ⟨a, b, c, rfl⟩
theorem eq_str {x : Str} (hx : eqM (.str x) (.str x) h = .ok (.bl true) h) : F__law_equal_r (k + 1) [.str x, .str x] h = .ok (.bl true) h := by
  rw [eqr_succ]
  simp [M__law_equal, defM, hx]
theorem eq_dr {a : Rat} : F__law_equal_r (k + 1 + 1) [dr a, dr a] h = .ok (.bl true) h := by
  refine eq_tupZ rfl (by simp) fun p hp => ?_
  simp at hp
  rcases hp with rfl | rfl <;> simp [eq_int]
end
end Zc
/-! C2D: rationals drawn. -/
namespace Zc
open PySem L2 Z Q
structure Drawn (m : Nat) (h : IH) (s : Nat) (h' : IH) : Prop where
  st : Strm m h' s
  len : h'.length = h.length
  keep : ∀ i, i ≠ s → h'[i]? = h[i]?
theorem Drew.dr {n : Nat} {h h' : IH} {s : Nat} (w : Drew n h s h') : Drawn (n + 1) h s h' := ⟨w.st, w.len, w.keep⟩
theorem Drawn.trans {n m : Nat} {h h' h'' : IH} {s : Nat} (w : Drawn n h s h') (v : Drawn m h' s h'') : Drawn m h s h'' := ⟨v.st, v.len.trans w.len, fun i hi => (v.keep i hi).trans (w.keep i hi)⟩
theorem Drawn.get {n : Nat} {h h' : IH} {s : Nat} (w : Drawn n h s h') {i : Nat} {o : IO} (e : h[i]? = some o) (ne : i ≠ s) : h'[i]? = some o := (w.keep i ne).trans e
end Zc
set_option exponentiation.threshold 10
/-! C3L: square roots, fields, elements. -/
namespace Zc
open PySem L2 Z Q
/-! ### squares -/
def IsSq (n : Int) : Prop := ∃ k : Int, k * k = n
open Classical in
noncomputable def sq (n : Int) : Bool := decide (IsSq n)
section
variable {h : IH} {n : Int}
/-! ### the program's root -/
/-! ### the law's root -/
end
end Zc
set_option exponentiation.threshold 100
/-! C3D: fields and elements drawn. -/
namespace Zc
open PySem L2 Z Q
/-- draws with new objects -/
structure Grew (m : Nat) (h : IH) (s : Nat) (h' : IH) : Prop where
  st : Strm m h' s
  len : h.length ≤ h'.length
  keep : ∀ i, i < h.length → i ≠ s → h'[i]? = h[i]?
theorem Drew.gr {n : Nat} {h h' : IH} {s : Nat} (w : Drew n h s h') : Grew (n + 1) h s h' := ⟨w.st, Nat.le_of_eq w.len.symm, fun i _ ne => w.keep i ne⟩
theorem Drawn.gr {n : Nat} {h h' : IH} {s : Nat} (w : Drawn n h s h') : Grew n h s h' := ⟨w.st, Nat.le_of_eq w.len.symm, fun i _ ne => w.keep i ne⟩
theorem Grew.trans {n m : Nat} {h h' h'' : IH} {s : Nat} (w : Grew n h s h') (v : Grew m h' s h'') : Grew m h s h'' := ⟨v.st, Nat.le_trans w.len v.len, fun i hi ne => (v.keep i (Nat.lt_of_lt_of_le hi w.len) ne).trans (w.keep i hi ne)⟩
theorem Grew.get {n : Nat} {h h' : IH} {s : Nat} (w : Grew n h s h') {i : Nat} {o : IO} (e : h[i]? = some o) (ne : i ≠ s) : h'[i]? = some o := (w.keep i (List.getElem?_eq_some_iff.mp e).1 ne).trans e
theorem Grew.app {n : Nat} {h : IH} {g : IH} {s : Nat} (w : Strm n h s) : Grew n h s (h ++ g) := ⟨w.app, by simp, fun i hi _ => List.getElem?_append_left hi⟩
theorem Grew.mono {n m : Nat} {h h' : IH} {s : Nat} (w : Grew n h s h') (c : n ≤ m) : Grew m h s h' := ⟨w.st.mono c, w.len, w.keep⟩
theorem Grew.refl {n : Nat} {h : IH} {s : Nat} (w : Strm n h s) : Grew n h s h := ⟨w, Nat.le_refl _, fun _ _ _ => rfl⟩
/-- an element -/
def de (x y : Rat) : D := .tup [dr x, dr y]
end Zc
/-! C4L: elements' arithmetic. -/
namespace Zc
open PySem L2 Z Q
section
variable {h g : IH} {f : Int} {x y u v : Rat} {k l m : Nat}
@[simp] theorem okV_de : okV h (de x y) = .ok (de x y) h := rfl
@[simp] theorem tyN_de : tyN h (de x y) = some "tuple" := rfl
@[simp] theorem ixM_de0 : ixM (de x y) (.int 0) h = .ok (dr x) h := by simp [de]
@[simp] theorem ixM_de1 : ixM (de x y) (.int 1) h = .ok (dr y) h := by simp [de]
@[simp] theorem lenF_de : lenF [de x y] h = .ok (.int 2) h := rfl
@[simp] theorem lenF_dr : lenF [dr x] h = .ok (.int 2) h := rfl
theorem bit1 {k : Nat} (hk : 0 < k) : Bit k 1 := by
  have : (2 : Nat) ^ 1 ≤ 2 ^ k := Nat.pow_le_pow_right (by decide) (by omega)
  show (1 : Int).natAbs < 2 ^ k
  have e : (1 : Int).natAbs = 1 := rfl
  omega
theorem RB.int (hf : Bit k f) (hk : 0 < k := by decide) : RB k (f : Rat) := ⟨hf, bit1 hk⟩
theorem RB.zero (hk : 0 < k := by decide) : RB k 0 := ⟨by show (0 : Int).natAbs < 2 ^ k; exact Nat.two_pow_pos k, bit1 hk⟩
@[simp] theorem app0 : (h ++ g)[h.length]? = g[0]? := by rw [List.getElem?_append_right (by omega)]; simp
@[simp] theorem app1 : (h ++ g)[h.length + 1]? = g[1]? := by rw [List.getElem?_append_right (by omega)]; simp
@[simp] theorem app2 : (h ++ g)[h.length + 1 + 1]? = g[2]? := by rw [List.getElem?_append_right (by omega)]; congr 1; omega
@[simp] theorem app3 : (h ++ g)[h.length + 1 + 1 + 1]? = g[3]? := by rw [List.getElem?_append_right (by omega)]; congr 1; omega
end
end Zc
/-! C5L: equality of rationals and elements; quotients. -/
namespace Zc
open PySem L2 Z Q
section
variable {h : IH} {f : Int} {x y u v : Rat} {k l m : Nat}
theorem dec_rat : (decide (x.num = y.num) && decide ((x.den : Int) = (y.den : Int))) = decide (x = y) := by
  have : (x.num = y.num ∧ (x.den : Int) = (y.den : Int)) ↔ x = y := ⟨fun ⟨a, b⟩ => Rat.ext a (by omega), fun e => by subst e; exact ⟨rfl, rfl⟩⟩
  by_cases c : x = y
  · have := this.mpr c
    simp [c]
  · have n := fun z => c (this.mp z)
    simp only [c, decide_false]
    by_cases a : x.num = y.num
    · have b : ¬ (x.den : Int) = (y.den : Int) := fun b => n ⟨a, b⟩
      rw [decide_eq_false b, Bool.and_false]
    · rw [decide_eq_false a, Bool.false_and]
theorem eqB_dr : eqB h (dr x) (dr y) = some (decide (x = y)) := by
  show (if SeqAt.shaped (.tuple [.int x.num, .int x.den]) = true ∧ SeqAt.shaped (.tuple [.int y.num, .int y.den]) = true then some (PyData.eqv (.tuple [.int x.num, .int x.den]) (.tuple [.int y.num, .int y.den])) else none) = _
  rw [if_pos ⟨rfl, rfl⟩, ← dec_rat]
  simp [PyData.eqv, PyData.eqvAll]
  rfl
theorem eqB_de : eqB h (de x y) (de u v) = some (decide (x = u) && decide (y = v)) := by
  show (if SeqAt.shaped (.tuple [.tuple [.int x.num, .int x.den], .tuple [.int y.num, .int y.den]]) = true ∧ SeqAt.shaped (.tuple [.tuple [.int u.num, .int u.den], .tuple [.int v.num, .int v.den]]) = true then some (PyData.eqv (.tuple [.tuple [.int x.num, .int x.den], .tuple [.int y.num, .int y.den]]) (.tuple [.tuple [.int u.num, .int u.den], .tuple [.int v.num, .int v.den]])) else none) = _
  rw [if_pos ⟨rfl, rfl⟩, ← dec_rat, ← dec_rat]
  simp [PyData.eqv, PyData.eqvAll]
  rfl
@[simp] theorem eqM_dr : eqM (dr x) (dr y) h = .ok (.bl (decide (x = y))) h := by unfold eqM; rw [eqB_dr]
@[simp] theorem neM_dr : neM (dr x) (dr y) h = .ok (.bl (!decide (x = y))) h := by unfold neM; rw [eqB_dr]
@[simp] theorem eqM_de : eqM (de x y) (de u v) h = .ok (.bl (decide (x = u) && decide (y = v))) h := by unfold eqM; rw [eqB_de]
@[simp] theorem gtup_de {gs : MGs} {env : Ev} : gtupM 2 gs (de x y) env = gs [dr x, dr y] env := rfl
@[simp] theorem gtup_dr {gs : MGs} {env : Ev} : gtupM 2 gs (dr x) env = gs [.int x.num, .int (x.den : Int)] env := rfl
/-! ### the norm is 0 at 0 alone -/
end
end Zc
/-! C6L: signs. -/
namespace Zc
open PySem L2 Z Q
section
variable {h : IH} {f n : Int} {x y u v : Rat} {k l m : Nat}
end
end Zc
/-! C7L: checks of shapes. -/
namespace Zc
open PySem L2 Z Q
section
variable {h : IH} {f n : Int} {x y : Rat} {a b : Bool} {k : Nat}
theorem isr_dr : F_is_rational [dr x] h = .ok (.bl true) h := by
  have e := ev_is_rational (n := x.num) (d := (x.den : Int)) (h := h)
  have g : Int.gcd x.num (x.den : Int) = 1 := x.reduced
  have p := den_pos' (r := x)
  rw [g, decide_eq_true p] at e
  exact e
end
/-! ### all over a tuple of three -/
end Zc
/-! C8L: what is no number. -/
namespace Zc
open PySem L2 Z Q
section
variable {h : IH} {s : Str} {d w a b c : D} {ds : List D} {r : Bool}
theorem str_eq {x y : Str} (hx : SeqAt.shaped (.str x) = true := by decide +kernel) (hy : SeqAt.shaped (.str y) = true := by decide +kernel) : eqM (.str x) (.str y) h = .ok (.bl (x == y)) h := eqM_str hx hy
end
end Zc
/-! G1D: graphs as data. -/
namespace Zc
open PySem L2 Z Q
section
variable {h : IH}
end
/-! ### the data -/
/-- a point -/
inductive Pt where
  | exit (e : Nat) | draw (bs : List (Rat × Nat)) | choose (ps : List Nat) | call (p : Nat) (ps : List Nat) | reward (a : Rat) (p : Nat) | reject | stop
def iD (n : Nat) : D := .int (n : Int)
def dB (b : Rat × Nat) : D := .tup [dr b.1, iD b.2]
def dPt : Pt → D
  | .exit e => .tup [.str "exit", iD e]
  | .draw bs => .tup [.str "draw", .tup (bs.map dB)]
  | .choose ps => .tup [.str "choose", .tup (ps.map iD)]
  | .call p ps => .tup [.str "call", iD p, .tup (ps.map iD)]
  | .reward a p => .tup [.str "reward", dr a, iD p]
  | .reject => .tup [.str "reject"]
  | .stop => .tup [.str "stop"]
/-- a procedure -/
structure Pr where
  ex : Nat
  pts : List Pt
def dP (p : Pr) : D := .tup [iD p.ex, .tup (p.pts.map dPt)]
abbrev Gr := List Pr
def dG (g : Gr) : D := .tup (g.map dP)
/-! ### what is wanted of it -/
def OkB (many : Nat) (b : Rat × Nat) : Prop := 0 < b.1.num ∧ b.1.num ≤ 60 ∧ b.1.den ≤ 60 ∧ b.2 < many
def sumR (bs : List (Rat × Nat)) : Rat := bs.foldl (fun t b => t + b.1) 0
def OkPt (g : Gr) (ex many : Nat) : Pt → Prop
  | .exit e => e < ex
  | .draw bs => 1 ≤ bs.length ∧ bs.length ≤ 4 ∧ (∀ b ∈ bs, OkB many b) ∧ sumR bs = 1
  | .choose ps => 1 ≤ ps.length ∧ ps.length ≤ 4 ∧ ∀ p ∈ ps, p < many
  | .call p ps => ∃ q, g[p]? = some q ∧ ps.length = q.ex ∧ ∀ p ∈ ps, p < many
  | .reward a p => 0 ≤ a.num ∧ a.num ≤ 1000 ∧ a.den ≤ 12 ∧ p < many
  | _ => True
structure OkG (g : Gr) : Prop where
  l1 : 1 ≤ g.length
  l6 : g.length ≤ 6
  ex : ∀ p ∈ g, p.ex ≤ 3
  p1 : ∀ p ∈ g, 1 ≤ p.pts.length
  p16 : ∀ p ∈ g, p.pts.length ≤ 16
  all : (g.map fun p => p.pts.length).sum ≤ 40
  pt : ∀ p ∈ g, ∀ x ∈ p.pts, OkPt g p.ex p.pts.length x
/-! ### it is plain -/
theorem all_map {α : Type} {f : α → D} {k : Nat} (h : ∀ a, pln k (f a) = true) (xs : List α) : (xs.map f).all (pln k) = true := by
  rw [List.all_eq_true]
  intro d hd
  obtain ⟨a, _, rfl⟩ := List.mem_map.mp hd
  exact h a
/-! ### what the program's checks say -/
section
variable {h : IH} {g : Gr}
theorem ev_is_index {n many : Nat} : F_is_index [iD n, iD many] h = .ok (.bl (decide (n < many))) h := by
  have : (0 : Int) ≤ (n : Int) := Int.natCast_nonneg n
  simp [F_is_index, M_is_index, defM, iD, ev_is_integer, this]
theorem ev_is_chance {x : Rat} : F_is_chance [dr x] h = .ok (.bl (decide (0 < x.num) && decide (x.den ≤ 60))) h := by
  have : decide ((x.den : Int) ≤ 60) = decide (x.den ≤ 60) := by
    rw [Bool.eq_iff_iff, decide_eq_true_eq, decide_eq_true_eq]
    omega
  by_cases c : 0 < x.num
  · simp [F_is_chance, M_is_chance, defM, isr_dr, c, this]
  · simp [F_is_chance, M_is_chance, defM, isr_dr, c]
theorem okV_dB {b : Rat × Nat} : okV h (dB b) = .ok (dB b) h := rfl
theorem okV_iD {n : Nat} : okV h (iD n) = .ok (iD n) h := rfl
end
end Zc
/-! G1L: graphs that are right are made. -/
namespace Zc
open PySem L2 Z Q
section
variable {h : IH} {g : Gr}
theorem OkB.rb {many : Nat} {b : Rat × Nat} (o : OkB many b) : RB 7 b.1 := by
  obtain ⟨h1, h2, h3, _⟩ := o
  have hd := b.1.den_pos
  exact ⟨by unfold Bit; omega, by unfold Bit; omega⟩
theorem ixM_iD {ds : List D} {n : Nat} : ixM (.tup ds) (iD n) h = match ds[n]? with
  | some d => .ok d h
  | none => .stuck := by
  cases e : ds[n]? with
  | some d =>
    have := atI_of e
    simp [iD, this]
  | none =>
    have : atI ds (n : Int) = none := by
      unfold atI ixN
      have := List.getElem?_eq_none_iff.mp e
      rw [if_pos (by omega), if_neg (by omega)] <;> rfl
    simp [iD, this]
theorem okV_dP {p : Pr} : okV h (dP p) = .ok (dP p) h := rfl
theorem okV_dG : okV h (dG g) = .ok (dG g) h := rfl
theorem okV_dPt {x : Pt} : okV h (dPt x) = .ok (dPt x) h := by cases x <;> rfl
theorem iD_def {n : Nat} : D.int (n : Int) = iD n := rfl
theorem enumI_tup {ma : ME} {env : Ev} {ds : List D} (e : ma env h = .ok (.tup ds) h) : enumI (oneM (aconsM ma anilM)) env h = .ok (.snap (enD 0 ds)) h := by
  unfold enumI oneM
  simp [R.bind, e]
theorem ints_sum : ∀ (l : List Nat), (l.map fun (n : Nat) => (n : Int)).sum = ((l.sum : Nat) : Int)
  | [] => rfl
  | n :: l => by
    rw [List.map_cons, List.sum_cons, List.sum_cons, ints_sum l]
    omega
theorem its_map' {α : Type} {r : α → Int} : ∀ (xs : List α), its' (xs.map fun a => D.int (r a)) = some (xs.map r)
  | [] => rfl
  | a :: xs => by
    rw [List.map_cons]
    unfold its'
    rw [its_map' xs]
    rfl
/-! ### graphs -/
def gF (g : Gr) : List (Str × D) := [("procedures", dG g)]
theorem insAt_ref {n : Nat} {c : Str} {fs : List (Str × D)} (e : h[n]? = some (.ins c fs)) : insAt h (.ref n) = some (n, c, fs) := by
  unfold insAt
  simp only [e]
theorem okF_one {c f : Str} : okF [c] f c f = true := by simp [okF]
end
end Zc
/-! G1R: the law's own rationals (second kind); draws from the stream at 1. -/
namespace Zc
open PySem L2 Z Q
section
variable {h : IH} {n d : Int} {a b : Rat} {k l : Nat}
end
/-! ### the stream of a law: it stands at 1, its cells at 0 -/
def St (n : Nat) (h : IH) : Prop := ∃ (ns : List Int) (c k : Int), h[1]? = some (.lst [.ref 0, .int c, .int k]) ∧ h[0]? = some (.lst (ns.map .int)) ∧ 0 ≤ c ∧ 0 ≤ k ∧ k ≤ n
theorem St.lt {n : Nat} {h : IH} (w : St n h) : 2 ≤ h.length := by
  obtain ⟨ns, c, k, h1, _⟩ := w
  exact (List.getElem?_eq_some_iff.mp h1).1
theorem St.mono {n m : Nat} {h : IH} (w : St n h) (c : n ≤ m) : St m h := by
  obtain ⟨ns, c', k, h1, h2, h4, h5, h6⟩ := w
  exact ⟨ns, c', k, h1, h2, h4, h5, by omega⟩
theorem St.of {n : Nat} {h h' : IH} (w : St n h) (e0 : h'[0]? = h[0]?) (e1 : h'[1]? = h[1]?) : St n h' := by
  obtain ⟨ns, c', k, h1, h2, h3⟩ := w
  exact ⟨ns, c', k, e1.trans h1, e0.trans h2, h3⟩
theorem St.app {n : Nat} {h g : IH} (w : St n h) : St n (h ++ g) :=
  w.of (List.getElem?_append_left (by have := w.lt; omega)) (List.getElem?_append_left (by have := w.lt; omega))
theorem St.set {n i : Nat} {h : IH} {o : IO} (w : St n h) (hi : 2 ≤ i) : St n (h.set i o) :=
  w.of (List.getElem?_set_ne (by omega)) (List.getElem?_set_ne (by omega))
/-- from h to h': the stream goes on, what stood stands -/
structure Gw (n : Nat) (h h' : IH) : Prop where
  st : St n h'
  len : h.length ≤ h'.length
  keep : ∀ i, 2 ≤ i → i < h.length → h'[i]? = h[i]?
theorem Gw.refl {n : Nat} {h : IH} (w : St n h) : Gw n h h := ⟨w, Nat.le_refl _, fun _ _ _ => rfl⟩
theorem Gw.trans {n m : Nat} {h h' h'' : IH} (w : Gw n h h') (v : Gw m h' h'') : Gw m h h'' := ⟨v.st, Nat.le_trans w.len v.len, fun i h2 hi => (v.keep i h2 (Nat.lt_of_lt_of_le hi w.len)).trans (w.keep i h2 hi)⟩
theorem Gw.mono {n m : Nat} {h h' : IH} (w : Gw n h h') (c : n ≤ m) : Gw m h h' := ⟨w.st.mono c, w.len, w.keep⟩
theorem Gw.get {n : Nat} {h h' : IH} (w : Gw n h h') {i : Nat} {o : IO} (e : h[i]? = some o) (h2 : 2 ≤ i) : h'[i]? = some o := (w.keep i h2 (List.getElem?_eq_some_iff.mp e).1).trans e
theorem Gw.app {n : Nat} {h g : IH} (w : St n h) : Gw n h (h ++ g) := ⟨w.app, by simp, fun i _ hi => List.getElem?_append_left hi⟩
theorem Gw.set {n i : Nat} {h h' : IH} {o : IO} (w : Gw n h h') (hi : h.length ≤ i) (h2 : 2 ≤ i) : Gw n h (h'.set i o) :=
  ⟨w.st.set h2, by rw [List.length_set]; exact w.len, fun j j2 hj => by rw [List.getElem?_set_ne (by omega)]; exact w.keep j j2 hj⟩
theorem trunc_gw {h h' : IH} {d : D} {n m : Nat} (w0 : St n h) (hn : n ≤ m) (w : Gw m h h') : ∃ h'', trunc h (.ok d h') = .ok d h'' ∧ Gw m h h'' := by
  rw [trunc_ok]
  split
  · exact ⟨h, rfl, .refl (w0.mono hn)⟩
  · exact ⟨h', rfl, w⟩
/-- a draw -/
theorem ev_draw {n : Nat} {h : IH} {m : Nat} (w : St n h) (hn : n ≤ 1000000000) (hm : 0 < m) (hb : m < 2 ^ 20) :
    ∃ (d : Nat) (h' : IH), F__law_next [.ref 1, .int (m : Int)] h = .ok (iD d) h' ∧ d < m ∧ Gw (n + 1) h h' ∧ h'.length = h.length := by
  obtain ⟨ns, c, k, h1, h2, hc, hk, hkn⟩ := w
  have bm : Bit 20 (m : Int) := bit_nat hb
  have hm' : (0 : Int) < (m : Int) := by omega
  have fin : ∀ (h' : IH) (c' k' : Int) (z u : Option D), h'[1]? = some (.lst [.ref 0, .int c', .int k']) → h'.length = h.length → (∀ i, i ≠ 1 → h'[i]? = h[i]?) → 0 ≤ c' → 0 ≤ k' → k' ≤ ((n + 1 : Nat) : Int) →
      nextA [some (.ref 1), some (.int (m : Int)), none, none, none] h = .nx [some (.ref 1), some (.int (m : Int)), none, z, u] h' →
      ∃ (d : Nat) (h' : IH), F__law_next [.ref 1, .int (m : Int)] h = .ok (iD d) h' ∧ d < m ∧ Gw (n + 1) h h' ∧ h'.length = h.length := fun h' c' k' z u g1 gl gk gc gk0 gkn ga => by
    have e := nextB_ev (x := none) (y := z) (z := u) g1 hm' bm (by decide) (by decide)
    have d0 := Int.emod_nonneg c' (b := (m : Int)) (by omega)
    have d1 := Int.emod_lt_of_pos c' hm'
    refine ⟨(c' % (m : Int)).toNat, h'.set 1 (.lst [.ref 0, .int (c' / m), .int k']), ?_, by omega, ⟨⟨ns, c' / m, k', set_get g1, ?_, Int.ediv_nonneg gc (by omega), gk0, gkn⟩, by rw [List.length_set, gl]; exact Nat.le_refl _, fun i hi _ => ?_⟩, by rw [List.length_set, gl]⟩
    · unfold F__law_next defM
      rw [next_is, seqM_eq]
      simp only [List.map, List.length, List.cons_append, List.nil_append, List.append, List.replicate]
      rw [ga]
      dsimp only
      rw [e]
      have ed : iD (c' % (m : Int)).toNat = .int (c' % (m : Int)) := by unfold iD; rw [Int.toNat_of_nonneg d0]
      rw [ed]
      exact trunc_len (by rw [List.length_set, gl])
    · rw [List.getElem?_set_ne (by decide), gk 0 (by decide)]; exact h2
    · rw [List.getElem?_set_ne (by omega), gk i (by omega)]
  by_cases c0 : c = 0
  · subst c0
    obtain ⟨c', z', u', h3, h4⟩ := nextA_yes (x := some (.int (m : Int))) (y := none) (z := none) (u := none) h1 h2 (by decide) hk (by omega)
    exact fin _ c' (k + 1) z' u' (set_get h1) (List.length_set ..) (fun i hi => List.getElem?_set_ne (Ne.symm hi)) h3 (by omega) (by omega) h4
  · exact fin h c k none none h1 rfl (fun _ _ => rfl) hc hk (by omega) (nextA_no h1 c0)
theorem st0 {ds : List Int} : St 0 [.lst (ds.map .int), .lst [.ref 0, .int 0, .int 0]] := ⟨ds, 0, 0, rfl, rfl, by decide, by decide, by decide⟩
end Zc
/-! G1C: comprehensions and walks that draw. -/
namespace Zc
open PySem L2 Z Q
/-- side by side -/
inductive Al {α β : Type} (P : β → α → Prop) : List β → List α → Prop where
  | nil : Al P [] []
  | cons {b : β} {a : α} {bs : List β} {as : List α} : P b a → Al P bs as → Al P (b :: bs) (a :: as)
theorem Al.length {α β : Type} {P : β → α → Prop} {bs : List β} {as : List α} (w : Al P bs as) : as.length = bs.length := by
  induction w with
  | nil => rfl
  | cons _ _ ih => simp [ih]
theorem Al.all {α β : Type} {P : β → α → Prop} {Q : α → Prop} (f : ∀ b a, P b a → Q a) {bs : List β} {as : List α} (w : Al P bs as) : ∀ a ∈ as, Q a := by
  induction w with
  | nil => intro a h; cases h
  | cons p _ ih =>
    intro a h
    rcases List.mem_cons.mp h with rfl | h
    · exact f _ _ p
    · exact ih a h
theorem Al.get {α β : Type} {P : β → α → Prop} {bs : List β} {as : List α} (w : Al P bs as) : ∀ {i : Nat} {a : α}, as[i]? = some a → ∃ b, bs[i]? = some b ∧ P b a := by
  induction w with
  | nil => intro i a h; cases h
  | cons p _ ih =>
    intro i a h
    cases i with
    | zero => cases h; exact ⟨_, rfl, p⟩
    | succ i => exact ih h
/-- the most draws -/
def NM : Nat := 1000000000
section
variable {α β : Type} {f : β → D} {r : α → D} {P : β → α → Prop} {g : MG} {me : ME} {env : Ev}
end
section
variable {mi : MI} {own : List Nat} {g : MG} {me : ME} {env : Ev} {h h1 h2 : IH} {ds ys : List D}
end
theorem rngD_map {n : Nat} : rngD 0 n = (List.range n).map iD := by
  unfold rngD
  rw [List.range_eq_range']
  refine List.ext_getElem (by simp) fun i _ _ => ?_
  simp [iD]
/-- a draw, the bound written out -/
theorem ev_dr {n : Nat} {h : IH} {k : Int} (w : St n h) (hn : n + 1 ≤ NM) (h0 : 0 < k := by decide) (hb : k < 2 ^ 20 := by decide) :
    ∃ (d : Nat) (h' : IH), F__law_next [.ref 1, .int k] h = .ok (.int (d : Int)) h' ∧ (d : Int) < k ∧ Gw (n + 1) h h' ∧ h'.length = h.length := by
  obtain ⟨m, rfl⟩ := Int.eq_ofNat_of_zero_le (Int.le_of_lt h0)
  unfold NM at hn
  obtain ⟨d, h', e, c, w1, e2⟩ := ev_draw (m := m) w (by omega) (by omega) (by exact_mod_cast hb)
  exact ⟨d, h', e, by exact_mod_cast c, w1, e2⟩
/-- appending to a list that stands -/
theorem append_ref {h : IH} {n : Nat} {xs : List D} {d : D} (e : h[n]? = some (.lst xs)) (hl : xs.length < 16777216) : appendF (.ref n) [d] h = .ok .non (h.set n (.lst (xs ++ [d]))) := by
  unfold appendF
  simp [e, hl]
theorem methM_ref {h h1 h2 : IH} {n : Nat} {xs : List D} {ds : List D} {env : Ev} {mo : ME} {ms : MA} {m : MMt} (e0 : mo env h = .ok (.ref n) h1) (e : h1[n]? = some (.lst xs)) (e2 : ms env h1 = .ok ds h2) : methM m mo ms env h = m (.ref n) ds h2 := by
  unfold methM
  rw [e0]
  simp only [R.bindG_ok, lisOf_ref e, e2]
theorem tupleF_ref {h : IH} {n : Nat} {xs : List D} (e : h[n]? = some (.lst xs)) : tupleF [.ref n] h = .ok (.tup xs) h := by unfold tupleF; simp [e]
theorem truB_ref {h : IH} {n : Nat} {xs : List D} (e : h[n]? = some (.lst xs)) : truB h (.ref n) = some (!xs.isEmpty) := by unfold truB; simp [e]
end Zc
/-! G1P: points drawn. -/
namespace Zc
open PySem L2 Z Q
theorem sumF_at {h : IH} {q : Nat} {ws : List Nat} (e : h[q]? = some (.lst (ws.map iD))) : sumF [.ref q] h = .ok (.int (ws.sum : Nat)) h := by
  have e2 : its' (ws.map iD) = some (ws.map fun (n : Nat) => (n : Int)) := its_map' (r := fun n : Nat => (n : Int)) ws
  unfold sumF
  simp [lisOf_ref e, e2, ints_sum]
end Zc
/-! G1V: points and procedures drawn. -/
namespace Zc
open PySem L2 Z Q
/-- what the masses want: chances over divisors of 2520, choices only where they are let -/
def Ti (ch : Bool) : Pt → Prop
  | .draw bs => ∀ b ∈ bs, b.1.den ∣ 2520
  | .choose _ => ch = true
  | _ => True
def dC (c : Nat × Nat) : D := .tup [iD c.1, iD c.2]
end Zc
/-! G1W: procedures, graphs and places drawn. -/
namespace Zc
open PySem L2 Z Q
theorem subM_iD1 {m : Nat} {h : IH} : subM (iD (m + 1)) (.int 1) h = .ok (iD m) h := by
  unfold iD
  rw [subM_int, show ((m + 1 : Nat) : Int) - 1 = (m : Int) by omega]
/-! ### graphs -/
/-- what is drawn -/
structure DG (g : Gr) : Prop where
  ok : OkG g
  l3 : g.length ≤ 3
  ex2 : ∀ p ∈ g, p.ex ≤ 2
  p5 : ∀ p ∈ g, p.pts.length ≤ 5
theorem sum_le {α : Type} {f : α → Nat} {k : Nat} : ∀ {xs : List α}, (∀ x ∈ xs, f x ≤ k) → (xs.map f).sum ≤ k * xs.length
  | [], _ => by simp
  | x :: xs, h => by
    have h1 := h x List.mem_cons_self
    have h2 := sum_le (xs := xs) fun y hy => h y (List.mem_cons_of_mem _ hy)
    simp only [List.map_cons, List.sum_cons, List.length_cons, Nat.mul_add]
    omega
end Zc
/-! G1X: graphs and places drawn. -/
namespace Zc
open PySem L2 Z Q
/-- a place of a graph -/
def inG (g : Gr) (c : Nat × Nat) : Prop := ∃ p, g[c.1]? = some p ∧ c.2 < p.pts.length
end Zc
/-! G1J: graphs that stand; rejecting. -/
namespace Zc
open PySem L2 Z Q
/-- what stood stands -/
structure Ap (h h' : IH) : Prop where
  len : h.length ≤ h'.length
  keep : ∀ i, i < h.length → h'[i]? = h[i]?
section
variable {h h' h'' g : IH} {d : D} {o : IO} {i k n : Nat}
theorem Ap.refl : Ap h h := ⟨Nat.le_refl _, fun _ _ => rfl⟩
theorem Ap.trans (w : Ap h h') (v : Ap h' h'') : Ap h h'' := ⟨Nat.le_trans w.len v.len, fun i hi => (v.keep i (Nat.lt_of_lt_of_le hi w.len)).trans (w.keep i hi)⟩
theorem Ap.app : Ap h (h ++ g) := ⟨by simp, fun i hi => List.getElem?_append_left hi⟩
theorem Ap.set (w : Ap h h') (hi : h.length ≤ i) : Ap h (h'.set i o) := ⟨by rw [List.length_set]; exact w.len, fun j hj => by rw [List.getElem?_set_ne (by omega)]; exact w.keep j hj⟩
theorem Ap.get (w : Ap h h') (e : h[i]? = some o) : h'[i]? = some o := (w.keep i (List.getElem?_eq_some_iff.mp e).1).trans e
theorem Ap.take (w : Ap h h') : h'.take h.length = h := by
  refine List.ext_getElem? fun i => ?_
  by_cases c : i < h.length
  · rw [List.getElem?_take_of_lt c]
    exact w.keep i c
  · rw [List.getElem?_eq_none (by simp; omega), List.getElem?_eq_none (by omega)]
theorem trunc_ap (w : Ap h h') (c : d.lt h.length = true) : trunc h (.ok d h') = .ok d h := by
  rw [trunc_ok, if_pos ⟨c, w.take⟩]
theorem Ap.gw {m : Nat} (v : St m h) (w : Ap h h') : Gw m h h' := ⟨v.of (w.keep 0 (by have := v.lt; omega)) (w.keep 1 (by have := v.lt; omega)), w.len, fun i _ hi => w.keep i hi⟩
end
/-! ### comprehensions over lists that stand -/
theorem enD_zip {α : Type} {f : α → D} : ∀ (xs : List α) (k : Nat), enD k (xs.map f) = (xs.zipIdx k).map fun q => .tup [iD q.2, f q.1]
  | [], _ => rfl
  | x :: xs, k => by
    rw [List.map_cons, List.zipIdx_cons, List.map_cons, ← enD_zip xs (k + 1)]
    rfl
theorem enD_get {α : Type} {f : α → D} {xs : List α} {i : Nat} {d : D} (h : (enD 0 (xs.map f))[i]? = some d) : ∃ hi : i < xs.length, d = .tup [iD i, f xs[i]] := by
  rw [enD_zip, List.getElem?_map, List.getElem?_zipIdx] at h
  cases e : xs[i]? with
  | none => rw [e] at h; cases h
  | some a =>
    obtain ⟨hi, ea⟩ := List.getElem?_eq_some_iff.mp e
    rw [e] at h
    cases h
    exact ⟨hi, by rw [ea]; simp⟩
/-! ### a graph that stands -/
def isG (h : IH) (n : Nat) (g : Gr) : Prop := h[n]? = some (.ins "Graph" (gF g))
section
variable {h : IH} {g : Gr} {n : Nat}
end
/-! ### rejecting -/
section
variable {cs : List (Nat × Nat)} {g : Gr}
end
end Zc
/-! G2P: the places of a graph. -/
namespace Zc
open PySem L2 Z Q
theorem appL_new {h : IH} {acc : List D} {y : D} (c : acc.length < 16777216) : appL h.length y (h ++ [IO.lst acc]) = some (h ++ [IO.lst (acc ++ [y])]) := by
  unfold appL
  simp [c]
/-- clauses that only put items at the end -/
theorem lcJ_app {h : IH} {k : D → IH → Option IH} {r : D → List D} {ds : List D} (H : ∀ d ∈ ds, ∀ acc : List D, acc.length + (r d).length ≤ 16777215 → k d (h ++ [IO.lst acc]) = some (h ++ [IO.lst (acc ++ r d)])) :
    ∀ (i m : Nat) (acc : List D), ds.length - i < m → i ≤ ds.length → acc.length + ((ds.drop i).flatMap r).length ≤ 16777215 → lcJ (.snap ds) k m i (h ++ [IO.lst acc]) = some (h ++ [IO.lst (acc ++ (ds.drop i).flatMap r)])
  | i, 0, _, hm, _, _ => by omega
  | i, m + 1, acc, hm, hi, hl => by
    show (match itm (.snap ds) (h ++ [IO.lst acc]) i with
      | none => none
      | some none => some (h ++ [IO.lst acc])
      | some (some d) => (k d (h ++ [IO.lst acc])).bind (lcJ (.snap ds) k m (i + 1))) = _
    have it : itm (.snap ds) (h ++ [IO.lst acc]) i = some ds[i]? := if_pos hi
    rw [it]
    by_cases c : i = ds.length
    · subst c
      rw [List.getElem?_eq_none (Nat.le_refl _), List.drop_length]
      simp
    · have hi' : i < ds.length := by omega
      rw [List.getElem?_eq_getElem hi']
      rw [List.drop_eq_getElem_cons hi', List.flatMap_cons] at hl ⊢
      rw [List.length_append] at hl
      dsimp only
      rw [H ds[i] (List.getElem_mem hi') acc (by omega)]
      show lcJ (.snap ds) k m (i + 1) (h ++ [IO.lst (acc ++ r ds[i])]) = _
      rw [lcJ_app H (i + 1) m (acc ++ r ds[i]) (by omega) (by omega) (by rw [List.length_append]; omega), List.append_assoc]
/-- a comprehension of two clauses that leaves the heap -/
theorem lc2_map {h : IH} {mi : MI} {own : List Nat} {g : MG} {mi1 : MI} {own1 : List Nat} {g1 : MG} {me : ME} {env : Ev} {ds : List D} {r : D → List D} (e : mi env h = .ok (.snap ds) h) (hl : ds.length < MOST) (ht : (ds.flatMap r).length ≤ 16777215)
    (H : ∀ d ∈ ds, ∃ (e : Ev) (ds1 : List D), g d (wipeE env own) = some e ∧ ds1.length < MOST ∧ (r d).length = ds1.length ∧ ∀ acc : List D, mi1 e (h ++ [IO.lst acc]) = .ok (.snap ds1) (h ++ [IO.lst acc]) ∧ ∀ (i : Nat) (d1 y : D), ds1[i]? = some d1 → (r d)[i]? = some y → ∃ e1, g1 d1 (wipeE e own1) = some e1 ∧ me e1 (h ++ [IO.lst acc]) = .ok y (h ++ [IO.lst acc])) :
    lc2M mi own g yesM mi1 own1 g1 yesM me env h = .ok (.ref h.length) (h ++ [IO.lst (ds.flatMap r)]) := by
  have key : ∀ d ∈ ds, ∀ acc : List D, acc.length + (r d).length ≤ 16777215 → onJ g yesM (wipeE env own) (in2J mi1 own1 g1 yesM me h.length) d (h ++ [IO.lst acc]) = some (h ++ [IO.lst (acc ++ r d)]) := fun d hd acc ha => by
    obtain ⟨e, ds1, h1, h2, h3, h4⟩ := H d hd
    unfold onJ
    rw [h1]
    show (in2J mi1 own1 g1 yesM me h.length) e (h ++ [IO.lst acc]) = _
    unfold in2J
    rw [(h4 acc).1]
    dsimp only
    -- item by item
    have inner : ∀ (m i : Nat) (ac : List D), ds1.length - i < m → i ≤ ds1.length → ac.length + (ds1.length - i) ≤ 16777215 → lcJ (.snap ds1) (onJ g1 yesM (wipeE e own1) (putJ h.length me)) m i (h ++ [IO.lst ac]) = some (h ++ [IO.lst (ac ++ (r d).drop i)]) := fun m => by
      induction m with
      | zero => intro i ac hm; omega
      | succ m ih =>
        intro i ac hm hi ha
        show (match itm (.snap ds1) (h ++ [IO.lst ac]) i with
          | none => none
          | some none => some (h ++ [IO.lst ac])
          | some (some d) => (onJ g1 yesM (wipeE e own1) (putJ h.length me) d (h ++ [IO.lst ac])).bind (lcJ (.snap ds1) _ m (i + 1))) = _
        have it : itm (.snap ds1) (h ++ [IO.lst ac]) i = some ds1[i]? := if_pos hi
        rw [it]
        by_cases c : i = ds1.length
        · subst c
          rw [List.getElem?_eq_none (Nat.le_refl _), List.drop_eq_nil_of_le (by omega)]
          simp
        · have hi' : i < ds1.length := by omega
          have hr' : i < (r d).length := by omega
          rw [List.getElem?_eq_getElem hi', List.drop_eq_getElem_cons hr']
          dsimp only
          obtain ⟨e1, q1, q2⟩ := (h4 ac).2 i ds1[i] (r d)[i] (List.getElem?_eq_getElem hi') (List.getElem?_eq_getElem hr')
          have : onJ g1 yesM (wipeE e own1) (putJ h.length me) ds1[i] (h ++ [IO.lst ac]) = some (h ++ [IO.lst (ac ++ [(r d)[i]])]) := by
            unfold onJ
            rw [q1]
            show putJ h.length me e1 (h ++ [IO.lst ac]) = _
            unfold putJ
            rw [q2]
            exact appL_new (by omega)
          rw [this]
          show lcJ (.snap ds1) _ m (i + 1) (h ++ [IO.lst (ac ++ [(r d)[i]])]) = _
          rw [ih (i + 1) _ (by omega) (by omega) (by rw [List.length_append]; simp; omega), List.append_assoc]
          rfl
    have := inner MOST 0 acc (by omega) (by omega) (by omega)
    rw [List.drop_zero] at this
    exact this
  unfold lc2M
  rw [e]
  have := lcJ_app key 0 MOST [] (by omega) (by omega) (by rw [List.drop_zero]; simpa using ht)
  rw [List.drop_zero, List.nil_append] at this
  simp only [R.bind, R.bindG_ok, this]
def pl (g : Gr) : List (Nat × Nat) := g.zipIdx.flatMap fun q => (List.range q.1.pts.length).map fun j => (q.2, j)
theorem pl_len {g : Gr} : (pl g).length = (g.map fun p => p.pts.length).sum := by
  unfold pl
  have : ∀ (g : Gr) (k : Nat), ((g.zipIdx k).flatMap fun q => (List.range q.1.pts.length).map fun j => (q.2, j)).length = (g.map fun p => p.pts.length).sum := fun g => by
    induction g with
    | nil => intro k; rfl
    | cons p g ih => intro k; rw [List.zipIdx_cons, List.flatMap_cons, List.length_append, ih]; simp
  exact this g 0
theorem mem_pl {g : Gr} {c : Nat × Nat} : c ∈ pl g ↔ inG g c := by
  unfold pl inG
  rw [List.mem_flatMap]
  constructor
  · rintro ⟨⟨p, i⟩, h1, h2⟩
    obtain ⟨j, h3, rfl⟩ := List.mem_map.mp h2
    exact ⟨p, List.mem_zipIdx_iff_getElem?.mp h1, List.mem_range.mp h3⟩
  · rintro ⟨p, h1, h2⟩
    exact ⟨(p, c.1), List.mem_zipIdx_iff_getElem?.mpr h1, List.mem_map.mpr ⟨c.2, List.mem_range.mpr h2, rfl⟩⟩
end Zc
/-! G3A: points of any graph drawn. -/
namespace Zc
open PySem L2 Z Q
def d60 (w : Nat) : D := dr (Rat.divInt (w : Int) 60)
theorem ev_low60 {w : Nat} {h : IH} : F__law_low [.int (w : Int), .int 60] h = .ok (d60 w) h := ev_law_lowR (k := 6) (by decide) (Bit.pos (by decide) (by decide))
theorem addM_refs {h : IH} {n m : Nat} {xs ys : List D} (e1 : h[n]? = some (.lst xs)) (e2 : h[m]? = some (.lst ys)) (hl : xs.length + ys.length ≤ 1000) : addM (.ref n) (.ref m) h = .ok (.ref h.length) (h ++ [.lst (xs ++ ys)]) := by
  unfold addM
  simp only [e1, e2]
  rw [if_pos (by rw [sizeLine_is]; omega)]
  rfl
noncomputable def chB : MS := seqM (setM 5 (binM addM (constM (.int 1)) (callM F__law_next (aconsM (varM 0) (aconsM (binM addM (binM addM (binM subM (varM 3) (varM 1)) (constM (.int 1))) (varM 4)) anilM)))))
  (seqM (exprM (methM appendF (varM 2) (aconsM (callM F__law_low (aconsM (varM 5) (aconsM (constM (.int 60)) anilM))) anilM)))
  (setM 3 (binM subM (varM 3) (varM 5))))
def ChI (n q m : Nat) (h0 : IH) (i : Nat) (e : Ev) (h : IH) : Prop := ∃ (ws : List Nat) (x y : Option D) (left : Nat), e = [some (.ref 1), some (.int (m : Int)), some (.ref q), some (.int (left : Int)), x, y] ∧ h[q]? = some (.lst (ws.map d60)) ∧ ws.length = i ∧ (∀ w ∈ ws, 1 ≤ w ∧ w ≤ 60) ∧ ws.sum + left = 60 ∧ m ≤ left + i ∧ 1 ≤ left ∧ Gw (n + i) h0 h
theorem ch_step {n q m : Nat} {h0 : IH} (m4 : m ≤ 4) (hn : n + 4 ≤ NM) (hq : h0.length ≤ q) (q2 : 2 ≤ q) {i : Nat} {e : Ev} {h : IH} (w : ChI n q m h0 i e h) (hi : i + 1 < m) :
    ∃ e2 h2, chB (e.set 4 (some (.int (i : Int)))) h = .nx e2 h2 ∧ ChI n q m h0 (i + 1) e2 h2 := by
  obtain ⟨ws, x, y, left, rfl, hw, wl, w1, wS, wm, l1, gw⟩ := w
  obtain ⟨a, h1, e1, a1, g1, _⟩ := ev_dr (k := (left : Int) - (m : Int) + 1 + (i : Int)) gw.st (by omega) (by omega) (by omega)
  have hw1 := g1.get hw q2
  have ap := append_ref (d := d60 (1 + a)) hw1 (by simp; omega)
  have em : ws.map d60 ++ [d60 (1 + a)] = (ws ++ [1 + a]).map d60 := by simp
  rw [em] at ap
  have el := fun h => ev_low60 (w := 1 + a) (h := h)
  have ca : ((1 + a : Nat) : Int) = 1 + (a : Int) := by push_cast; rfl
  rw [ca] at el
  have mm := methM_ref (m := appendF) (mo := varM 2) (ms := aconsM (callM F__law_low (aconsM (varM 5) (aconsM (constM (.int 60)) anilM))) anilM) (env := [some (.ref 1), some (.int (m : Int)), some (.ref q), some (.int (left : Int)), some (.int (i : Int)), some (.int (1 + (a : Int)))]) (h := h1) (h1 := h1) (n := q) (xs := ws.map d60) (ds := [d60 (1 + a)]) (h2 := h1) (by simp) hw1 (by simp [el])
  rw [ap] at mm
  refine ⟨[some (.ref 1), some (.int (m : Int)), some (.ref q), some (.int ((left - (1 + a) : Nat) : Int)), some (.int (i : Int)), some (.int (1 + (a : Int)))], h1.set q (.lst ((ws ++ [1 + a]).map d60)), ?_, ws ++ [1 + a], _, _, left - (1 + a), rfl, by simp [(List.getElem?_eq_some_iff.mp hw1).1], by simp [wl], ?_, by simp; omega, by omega, by omega, (gw.trans g1).set hq q2⟩
  · have lc : ((left - (1 + a) : Nat) : Int) = (left : Int) - (1 + (a : Int)) := by omega
    simp [chB, e1, mm, lc, -List.map_append]
  · intro w hw
    rcases List.mem_append.mp hw with hw | hw
    · exact w1 w hw
    · rw [List.mem_singleton.mp hw]; omega
theorem ev_law_chances {n m : Nat} {h : IH} (w : St n h) (hn : n + 4 ≤ NM) (m0 : 0 < m) (m4 : m ≤ 4) : ∃ (ws : List Nat) (q : Nat) (h' : IH), F__law_chances [.ref 1, .int (m : Int)] h = .ok (.ref q) h' ∧ h'[q]? = some (.lst (ws.map d60)) ∧ 2 ≤ q ∧ ws.length = m ∧ (∀ w ∈ ws, 1 ≤ w ∧ w ≤ 60) ∧ ws.sum = 60 ∧ Gw (n + 4) h h' := by
  have q2 := w.lt
  obtain ⟨k, rfl⟩ : ∃ k, m = k + 1 := ⟨m - 1, by omega⟩
  obtain ⟨e', h1, e1, ws, x, y, left, rfl, hw, wl, w1, wS, wm, l1, gw⟩ := forS_inv (ds := rngD 0 k) (g := gnameM 4) (mb := chB) (ChI n h.length (k + 1) h) (by
    intro i e H d wi hd
    obtain ⟨hi, rfl⟩ := rngD_get hd
    have z0 : (0 : Int) + (i : Int) = (i : Int) := by omega
    obtain ⟨e2, h2, r1, r2⟩ := ch_step m4 (by omega) (Nat.le_refl _) q2 wi (by omega)
    exact ⟨_, rfl, e2, h2, .inl (by rw [z0]; exact r1), r2⟩) k 0 [some (.ref 1), some (.int ((k + 1 : Nat) : Int)), some (.ref h.length), some (.int 60), none, none] (h ++ [.lst []]) (by rw [Zc.rngD_length]; omega) (by omega) ⟨[], none, none, 60, rfl, by simp, rfl, (fun _ h => nomatch h), rfl, by omega, by decide, .app w⟩
  rw [List.drop_zero] at e1
  rw [Zc.rngD_length] at wl gw
  have hw2 : (h1 ++ [IO.lst [d60 left]])[h.length]? = some (.lst (ws.map d60)) := (Ap.app (h := h1)).get hw
  have ad := addM_refs hw2 (m := h1.length) (ys := [d60 left]) (by simp) (by simp [wl]; omega)
  have em : ws.map d60 ++ [d60 left] = (ws ++ [left]).map d60 := by simp
  rw [em] at ad
  have el := fun h => ev_low60 (w := left) (h := h)
  have hr := rngI1_int (j := (k : Int)) (n := k) (h := h ++ [.lst []]) (h' := h ++ [.lst []]) (ms := aconsM (binM subM (varM 1) (constM (.int 1))) anilM) (env := [some (.ref 1), some (.int ((k + 1 : Nat) : Int)), some (.ref h.length), some (.int 60), none, none]) (by
    have := subM_iD1 (m := k) (h := h ++ [IO.lst []])
    unfold iD at this
    simp [-subM_int]
    push_cast at this
    rw [this]
    rfl) (by omega) (by omega) (by omega)
  have G1 : Gw (n + 4) h h1 := gw.mono (by omega)
  refine ⟨ws ++ [left], h1.length + 1, h1 ++ [.lst [d60 left], .lst ((ws ++ [left]).map d60)], ?_, by simp, by have := G1.len; omega, by simp [wl], ?_, by simp; omega, G1.trans (.app G1.st)⟩
  · unfold chB at e1
    push_cast at e1 hr
    simp [F__law_chances, M__law_chances, defM, lstM_eq, newL_eq, hr, -rngI1_eq, e1, el]
    simp at ad
    rw [ad]
    simp
    exact trunc_new (by have := G1.len; omega)
  · intro w hw
    rcases List.mem_append.mp hw with hw | hw
    · exact w1 w hw
    · rw [List.mem_singleton.mp hw]; omega
theorem ok60_fin : ∀ w : Fin 61, 0 < w.val → 0 < (Rat.divInt w.val 60).num ∧ (Rat.divInt w.val 60).num ≤ 60 ∧ (Rat.divInt w.val 60).den ≤ 60 := by decide +kernel
end Zc
/-! G3B: any points and any graphs drawn. -/
namespace Zc
open PySem L2 Z Q
def Sz (qe qs : Nat) (szs : List (Nat × Nat)) (h : IH) : Prop := h[qe]? = some (.lst (szs.map fun s => iD s.1)) ∧ h[qs]? = some (.lst (szs.map fun s => iD s.2))
theorem Sz.gw {qe qs n : Nat} {szs : List (Nat × Nat)} {h h' : IH} (w : Sz qe qs szs h) (g : Gw n h h') (q1 : 2 ≤ qe) (q2 : 2 ≤ qs) : Sz qe qs szs h' := ⟨g.get w.1 q1, g.get w.2 q2⟩
theorem Sz.ex {qe qs p : Nat} {szs : List (Nat × Nat)} {h : IH} {s : Nat × Nat} (w : Sz qe qs szs h) (e : szs[p]? = some s) : ixM (.ref qe) (.int (p : Int)) h = .ok (iD s.1) h := by
  rw [ixM_ref w.1, atI_of (x := iD s.1) (by rw [List.getElem?_map, e]; rfl)]
theorem Sz.sz {qe qs p : Nat} {szs : List (Nat × Nat)} {h : IH} {s : Nat × Nat} (w : Sz qe qs szs h) (e : szs[p]? = some s) : ixM (.ref qs) (.int (p : Int)) h = .ok (iD s.2) h := by
  rw [ixM_ref w.2, atI_of (x := iD s.2) (by rw [List.getElem?_map, e]; rfl)]
end Zc
/-! G3C: any graphs drawn. -/
namespace Zc
open PySem L2 Z Q
end Zc
/-! G1K: rejecting. -/
namespace Zc
open PySem L2 Z Q
section
variable {h : IH} {g : Gr} {n m : Nat} {cs : List (Nat × Nat)}
theorem isG.ap {h' : IH} (w : isG h n g) (a : Ap h h') : isG h' n g := a.get w
end
end Zc
/-! G3D: what a point names. -/
namespace Zc
open PySem L2 Z Q
section
variable {h : IH}
def tg : Pt → List Nat
  | .draw bs => bs.map Prod.snd
  | .choose ps => ps
  | .call _ ps => ps
  | .reward _ q => [q]
  | _ => []
def tgs (a : Nat) (x : Pt) : List (Nat × Nat) := (tg x).map (fun i => (a, i)) ++ match x with
  | .call q _ => [(q, 0)]
  | _ => []
def wd : Pt → Str
  | .exit _ => "exit" | .draw _ => "draw" | .choose _ => "choose" | .call _ _ => "call" | .reward _ _ => "reward" | .reject => "reject" | .stop => "stop"
theorem ix_wd {x : Pt} : ixM (dPt x) (.int 0) h = .ok (.str (wd x)) h := by cases x <;> simp [dPt, wd]
/-- few items -/
def few (x : Pt) : Prop := (tg x).length ≤ 1000
theorem few_of {g : Gr} {ex many : Nat} (hx : ∀ p ∈ g, p.ex ≤ 3) : ∀ {x : Pt}, OkPt g ex many x → few x
  | .exit _, _ => by simp [few, tg]
  | .draw bs, h => by have := h.2.1; simp [few, tg]; omega
  | .choose ps, h => by have := h.2.1; simp [few, tg]; omega
  | .call q ps, h => by
    obtain ⟨p, h1, h2, _⟩ := h
    have := hx p (List.mem_of_getElem? h1)
    simp [few, tg]; omega
  | .reward _ _, _ => by simp [few, tg]
  | .reject, _ => by simp [few, tg]
  | .stop, _ => by simp [few, tg]
end
/-! ### comprehensions that choose -/
end Zc
/-! G3E: named, on both sides. -/
namespace Zc
open PySem L2 Z Q
def isP (g : Gr) (c : Nat × Nat) (x : Pt) : Prop := ∃ p, g[c.1]? = some p ∧ p.pts[c.2]? = some x
theorem isP.inG {g : Gr} {c : Nat × Nat} {x : Pt} (w : isP g c x) : inG g c := by
  obtain ⟨p, h1, h2⟩ := w
  exact ⟨p, h1, (List.getElem?_eq_some_iff.mp h2).1⟩
theorem isP.few {g : Gr} {c : Nat × Nat} {x : Pt} (ok : OkG g) (w : isP g c x) : few x := by
  obtain ⟨p, h1, h2⟩ := w
  exact few_of ok.ex (ok.pt p (List.mem_of_getElem? h1) x (List.mem_of_getElem? h2))
def nm (g : Gr) (c : Nat × Nat) (x : Pt) : List (Nat × Nat) := (pl g).filter fun o => decide (o ∈ tgs c.1 x)
section
variable {h : IH} {g : Gr} {n : Nat} {c : Nat × Nat} {x : Pt}
end
end Zc
/-! G3F: the law's places and what is named by them. -/
namespace Zc
open PySem L2 Z Q
section
variable {h : IH} {g : Gr}
variable {c : Nat × Nat} {x : Pt}
end
end Zc
/-! G3G: reached, on both sides. -/
namespace Zc
open PySem L2 Z Q
def ptAt (g : Gr) (c : Nat × Nat) : Option Pt := (g[c.1]?).bind fun p => p.pts[c.2]?
def new (g : Gr) (L : List (Nat × Nat)) (c : Nat × Nat) : List (Nat × Nat) := match ptAt g c with
  | some x => (nm g c x).filter fun o => !decide (o ∈ L)
  | none => []
section
variable {g : Gr}
theorem nodup_le {α : Type} [BEq α] [LawfulBEq α] : ∀ {xs ys : List α}, xs.Nodup → (∀ a ∈ xs, a ∈ ys) → xs.length ≤ ys.length
  | [], _, _, _ => by simp
  | x :: xs, ys, hn, hs => by
    obtain ⟨h1, h2⟩ := List.nodup_cons.mp hn
    have hx := hs x List.mem_cons_self
    have := nodup_le (xs := xs) (ys := ys.erase x) h2 fun a ha => (List.mem_erase_of_ne (fun e => by subst e; exact h1 ha)).mpr (hs a (List.mem_cons_of_mem _ ha))
    rw [List.length_erase_of_mem hx] at this
    have : 0 < ys.length := List.length_pos_of_mem hx
    simp only [List.length_cons]
    omega
/-- what is reached so far -/
structure Good (g : Gr) (L : List (Nat × Nat)) : Prop where
  nd : L.Nodup
  ok : ∀ c ∈ L, inG g c
  pos : 0 < L.length
theorem Good.le {L : List (Nat × Nat)} (w : Good g L) (ok : OkG g) : L.length ≤ 40 := by
  have := nodup_le w.nd fun c hc => mem_pl.mpr (w.ok c hc)
  rw [pl_len] at this
  have := ok.all
  omega
end
section
variable {h H : IH} {g : Gr} {n q i : Nat} {c : Nat × Nat} {L : List (Nat × Nat)}
end
end Zc
/-! G3H: reached, told. -/
namespace Zc
open PySem L2 Z Q
section
variable {h : IH} {g : Gr} {n : Nat} {c : Nat × Nat}
end
end Zc
/-! G4A: the chances of lengths, plain. -/
namespace Zc
open PySem L2 Z Q
/-- how many exits -/
def exN (g : Gr) (p : Nat) : Nat := match g[p]? with
  | some q => q.ex
  | none => 0
abbrev Tb := (Nat × Nat) → Nat → List Rat
def gt (R : List Rat) (i : Nat) : Rat := R.getD i 0
/-- of a call: the runs that come back -/
def callS (R : Tb) (l : Nat) (c : Nat × Nat) (w q : Nat) (ps : List (Nat × Nat)) (t : Rat) : Rat :=
  ps.foldl (fun t p => (List.range (l - 1)).foldl (fun t f => t + gt (R (q, 0) p.2) f * gt (R (c.1, p.1) w) (l - 2 - f)) t) t
def nxt (g : Gr) (R : Tb) (l : Nat) (c : Nat × Nat) (w : Nat) : Rat := match ptAt g c with
  | some (.exit e) => if l = 0 ∧ e = w then 1 else 0
  | some .reject => if l = 0 ∧ exN g c.1 = w then 1 else 0
  | some .stop => if l = 0 ∧ exN g c.1 + 1 = w then 1 else 0
  | some (.draw bs) => if l = 0 then 0 else bs.foldl (fun t b => t + b.1 * gt (R (c.1, b.2) w) (l - 1)) 0
  | some (.reward _ q) => if l = 0 then 0 else gt (R (c.1, q) w) (l - 1)
  | some (.call q ps) => if l = 0 then 0 else
      (if exN g c.1 ≤ w then callS R l c w q ps.zipIdx 0 + gt (R (q, 0) (ps.length + (w - exN g c.1))) (l - 1) else callS R l c w q ps.zipIdx 0)
  | _ => 0
def tab (g : Gr) : Nat → Tb
  | 0 => fun _ _ => []
  | n + 1 => fun c w => tab g n c w ++ [nxt g (tab g n) n c w]
/-- the chance of a length -/
def lenv (g : Gr) (l : Nat) (c : Nat × Nat) (w : Nat) : Rat := nxt g (tab g l) l c w
/-! ### the rules -/
section
variable {g : Gr} {l : Nat} {c : Nat × Nat} {w : Nat}
end
/-! ### sizes -/
/-- n over 2520 to the i, n at most N -/
def Fr (i N : Nat) (x : Rat) : Prop := ∃ n : Nat, n ≤ N ∧ x = (n : Rat) / ((2520 ^ i : Nat) : Rat)
theorem pw_ne (i : Nat) : ((2520 ^ i : Nat) : Rat) ≠ 0 := by
  have : 0 < 2520 ^ i := Nat.pow_pos (by decide)
  intro z
  have : (2520 ^ i : Nat) = 0 := by exact_mod_cast z
  omega
theorem Fr.add {i N M : Nat} {x y : Rat} : Fr i N x → Fr i M y → Fr i (N + M) (x + y) := by
  rintro ⟨n, hn, rfl⟩ ⟨m, hm, rfl⟩
  refine ⟨n + m, by omega, ?_⟩
  have := pw_ne i
  push_cast
  grind
theorem Fr.mul {i j N M : Nat} {x y : Rat} : Fr i N x → Fr j M y → Fr (i + j) (N * M) (x * y) := by
  rintro ⟨n, hn, rfl⟩ ⟨m, hm, rfl⟩
  refine ⟨n * m, Nat.mul_le_mul hn hm, ?_⟩
  have h1 := pw_ne i
  have h2 := pw_ne j
  rw [Nat.pow_add]
  push_cast
  push_cast at h1 h2
  grind
theorem Fr.up {i N : Nat} {x : Rat} (k : Nat) : Fr i N x → Fr (i + k) (N * 2520 ^ k) x := fun h => by
  have := Fr.mul h (⟨2520 ^ k, Nat.le_refl _, by have := pw_ne k; grind⟩ : Fr k (2520 ^ k) 1)
  rwa [Rat.mul_one] at this
theorem Fr.mono {i N M : Nat} {x : Rat} (c : N ≤ M) : Fr i N x → Fr i M x := fun ⟨n, hn, e⟩ => ⟨n, by omega, e⟩
theorem Fr.zero {i N : Nat} : Fr i N 0 := ⟨0, by omega, by rw [show ((0 : Nat) : Rat) = 0 from rfl]; grind⟩
theorem Fr.one {i N : Nat} (h : 2520 ^ i ≤ N) : Fr i N 1 := ⟨2520 ^ i, h, by have := pw_ne i; grind⟩
theorem Fr.rb {i N k : Nat} {x : Rat} (h : Fr i N x) (h1 : N < 2 ^ k) (h2 : 2520 ^ i < 2 ^ k) : RB k x := by
  obtain ⟨n, hn, rfl⟩ := h
  have e : (n : Rat) / ((2520 ^ i : Nat) : Rat) = Rat.divInt (n : Int) ((2520 ^ i : Nat) : Int) := by
    rw [Rat.divInt_eq_div]
    push_cast
    rfl
  rw [e]
  have p : 0 < 2520 ^ i := Nat.pow_pos (by decide)
  refine RB.divInt ?_ ?_ (by omega)
  · show (n : Int).natAbs < 2 ^ k
    simp only [Int.natAbs_natCast]; omega
  · show (((2520 ^ i : Nat) : Int)).natAbs < 2 ^ k
    simp only [Int.natAbs_natCast]; omega
/-- the most of the numerators -/
def BN (i : Nat) : Nat := 645120 ^ i
theorem bn_succ (i : Nat) : BN (i + 1) = 645120 * BN i := by unfold BN; rw [Nat.pow_succ, Nat.mul_comm]
theorem bn_lt (i : Nat) : BN i < 2 ^ (20 * i + 1) := by
  induction i with
  | zero => decide
  | succ i ih =>
    rw [bn_succ, show 20 * (i + 1) + 1 = 20 * i + 1 + 20 by omega, Nat.pow_add]
    have : (645120 : Nat) < 2 ^ 20 := by decide
    calc 645120 * BN i < 2 ^ 20 * 2 ^ (20 * i + 1) := Nat.mul_lt_mul'' this ih
      _ = _ := Nat.mul_comm ..
theorem p_le_bn (i : Nat) : 2520 ^ i ≤ BN i := Nat.pow_le_pow_left (by decide) i
abbrev FrB (i : Nat) (x : Rat) : Prop := Fr i (BN i) x
theorem FrB.rb {i : Nat} {x : Rat} (h : FrB i x) : RB (20 * i + 1) x := Fr.rb h (bn_lt i) (Nat.lt_of_le_of_lt (p_le_bn i) (bn_lt i))
/-- a chance of a branch -/
theorem Fr.chance {x : Rat} (h0 : 0 ≤ x.num) (h1 : x.num ≤ 60) (h : x.den ∣ 2520) : Fr 1 151200 x := by
  obtain ⟨k, hk⟩ := h
  have kp : 0 < k := by
    rcases Nat.eq_zero_or_pos k with z | z
    · subst z; simp at hk
    · exact z
  have k2 : k ≤ 2520 := by
    have := x.den_pos
    have : 1 * k ≤ x.den * k := Nat.mul_le_mul_right k this
    omega
  refine ⟨x.num.toNat * k, ?_, ?_⟩
  · have : x.num.toNat ≤ 60 := by omega
    exact Nat.mul_le_mul this k2
  · have e : x = (x.num : Rat) / (x.den : Rat) := (Rat.num_divInt_den x).symm.trans (by rw [Rat.divInt_eq_div]; push_cast; rfl)
    have n0 : ((x.num.toNat : Nat) : Rat) = (x.num : Rat) := by
      have : ((x.num.toNat : Nat) : Int) = x.num := Int.toNat_of_nonneg h0
      exact_mod_cast congrArg (fun z : Int => (z : Rat)) this
    have dn : (x.den : Rat) ≠ 0 := by
      have := x.den_pos
      intro z
      have : x.den = 0 := by exact_mod_cast z
      omega
    have kn : (k : Rat) ≠ 0 := by
      intro z
      have : k = 0 := by exact_mod_cast z
      omega
    have h2 : ((2520 ^ 1 : Nat) : Rat) = (x.den : Rat) * (k : Rat) := by
      rw [Nat.pow_one, hk]; push_cast; rfl
    rw [h2]
    push_cast
    rw [n0]
    conv => lhs; rw [e]
    grind
/-! ### the chances' sizes -/
/-- a graph whose chances fit -/
structure Cg (g : Gr) : Prop where
  ok : OkG g
  ti : ∀ p ∈ g, ∀ x ∈ p.pts, Ti false x
section
variable {g : Gr} {l : Nat}
end
end Zc
/-! G4B: the checks of the masses. -/
namespace Zc
open PySem L2 Z Q
section
variable {h : IH} {g : Gr} {n : Nat} {c : Nat × Nat} {x : Pt}
/-! ### what is reached is closed -/
def np (z : Int × Int) : Nat × Nat := (z.1.toNat, z.2.toNat)
/-- closed -/
structure Cl (g : Gr) (ps : List (Nat × Nat)) : Prop where
  inn : ∀ a ∈ ps, inG g a
  nd : ps.Nodup
  le : ps.length ≤ 40
  cl : ∀ a ∈ ps, ∀ y, isP g a y → ∀ o ∈ tgs a.1 y, o ∈ ps
end
end Zc
/-! G4C: the rows of the lengths. -/
namespace Zc
open PySem L2 Z Q
theorem okV_dC {h : IH} {c : Nat × Nat} : okV h (dC c) = .ok (dC c) h := rfl
def lF (n p r : Nat) : List (Str × D) := [("graph", .ref n), ("places", .ref p), ("rows", .ref r)]
structure LI (h : IH) (L n p r : Nat) (ro : Nat × Nat → Nat) (re : Nat × Nat → Nat → Nat) (ps : List (Nat × Nat)) (g : Gr) (N : Nat × Nat → Nat → Nat) : Prop where
  ins : h[L]? = some (.ins "Lengths" (lF n p r))
  gr : isG h n g
  rws : h[r]? = some (.dit (ps.map fun c => ([(c.1 : Int), (c.2 : Int)], D.ref (ro c))))
  row : ∀ c ∈ ps, h[ro c]? = some (.lst ((List.range (exN g c.1 + 2)).map fun w => D.ref (re c w)))
  ent : ∀ c ∈ ps, ∀ w, w < exN g c.1 + 2 → h[re c w]? = some (.lst ((List.range (N c w)).map fun l => dr (lenv g l c w)))
  inj : ∀ c ∈ ps, ∀ c' ∈ ps, ∀ w w', w < exN g c.1 + 2 → w' < exN g c'.1 + 2 → re c w = re c' w' → c = c' ∧ w = w'
  sep : ∀ c ∈ ps, ∀ c' ∈ ps, ∀ w, w < exN g c.1 + 2 → re c w ≠ ro c'
  sepp : ∀ c ∈ ps, ∀ w, w < exN g c.1 + 2 → re c w ≠ p
section
variable {h : IH} {L n p r : Nat} {ro : Nat × Nat → Nat} {re : Nat × Nat → Nat → Nat} {ps : List (Nat × Nat)} {g : Gr} {N : Nat × Nat → Nat → Nat}
theorem LI.cell (li : LI h L n p r ro re ps g N) {c : Nat × Nat} {w : Nat} (hc : c ∈ ps) (hw : w < exN g c.1 + 2) : ixM (.ref (ro c)) (.int (w : Int)) h = .ok (.ref (re c w)) h := by
  rw [ixM_ref (li.row c hc), atI_of (x := .ref (re c w))]
  rw [List.getElem?_map, List.getElem?_range hw]; rfl
theorem LI.cell' (li : LI h L n p r ro re ps g N) {c : Nat × Nat} {w : Nat} (hc : c ∈ ps) (hw : w < exN g c.1 + 2) : ixM (.ref (ro c)) (iD w) h = .ok (.ref (re c w)) h := li.cell hc hw
theorem LI.item (li : LI h L n p r ro re ps g N) {c : Nat × Nat} {w i : Nat} (hc : c ∈ ps) (hw : w < exN g c.1 + 2) (hi : i < N c w) : ixM (.ref (re c w)) (.int (i : Int)) h = .ok (dr (lenv g i c w)) h := by
  rw [ixM_ref (li.ent c hc w hw), atI_of (x := dr (lenv g i c w))]
  rw [List.getElem?_map, List.getElem?_range hi]; rfl
theorem fld_Lx {f : Str} {v : D} {ma : ME} {env : Ev} (e : ma env h = .ok (.ref L) h) (w : h[L]? = some (.ins "Lengths" (lF n p r))) (hf : (lF n p r).lookup f = some v) : fldM (okF ["Lengths"] f) f ma env h = .ok v h := by
  unfold fldM
  rw [e]
  simp only [R.bind, R.bindG_ok, insAt_ref w, okF_one, if_true, hf]
theorem LI.graph (li : LI h L n p r ro re ps g N) {f : Str} {ma : ME} {env : Ev} (hf : f = "graph" := by rfl) (e : ma env h = .ok (.ref L) h) : fldM (okF ["Lengths"] f) f ma env h = .ok (.ref n) h := by
  subst hf
  exact fld_Lx e li.ins rfl
theorem LI.places (li : LI h L n p r ro re ps g N) {f : Str} {ma : ME} {env : Ev} (hf : f = "places" := by rfl) (e : ma env h = .ok (.ref L) h) : fldM (okF ["Lengths"] f) f ma env h = .ok (.ref p) h := by
  subst hf
  exact fld_Lx e li.ins rfl
theorem LI.rows (li : LI h L n p r ro re ps g N) {f : Str} {ma : ME} {env : Ev} (hf : f = "rows" := by rfl) (e : ma env h = .ok (.ref L) h) : fldM (okF ["Lengths"] f) f ma env h = .ok (.ref r) h := by
  subst hf
  exact fld_Lx e li.ins rfl
end
end Zc
/-! G4D: the chance of a length. -/
namespace Zc
open PySem L2 Z Q
section
variable {h : IH} {L n p r : Nat} {ro : Nat × Nat → Nat} {re : Nat × Nat → Nat → Nat} {ps : List (Nat × Nat)} {g : Gr} {N : Nat × Nat → Nat → Nat}
end
end Zc
/-! G4E: one more length. -/
namespace Zc
open PySem L2 Z Q
section
variable {h : IH} {L n p r : Nat} {ro : Nat × Nat → Nat} {re : Nat × Nat → Nat → Nat} {ps : List (Nat × Nat)} {g : Gr} {N : Nat × Nat → Nat → Nat}
theorem LI.congr {N' : Nat × Nat → Nat → Nat} (li : LI h L n p r ro re ps g N) (e : ∀ c ∈ ps, ∀ w, w < exN g c.1 + 2 → N c w = N' c w) : LI h L n p r ro re ps g N' :=
  ⟨li.ins, li.gr, li.rws, li.row, fun c hc w hw => by rw [← e c hc w hw]; exact li.ent c hc w hw, li.inj, li.sep, li.sepp⟩
/-- a number more in a row -/
theorem LI.push (li : LI h L n p r ro re ps g N) {c : Nat × Nat} {w : Nat} (hc : c ∈ ps) (hw : w < exN g c.1 + 2) :
    LI (h.set (re c w) (.lst ((List.range (N c w)).map (fun l => dr (lenv g l c w)) ++ [dr (lenv g (N c w) c w)]))) L n p r ro re ps g (fun c' w' => if c' = c ∧ w' = w then N c w + 1 else N c' w') := by
  have he := li.ent c hc w hw
  have nL : re c w ≠ L := fun z => by have := li.ins; rw [← z, he] at this; cases this
  have nn : re c w ≠ n := fun z => by have := li.gr; unfold isG at this; rw [← z, he] at this; cases this
  have nr : re c w ≠ r := fun z => by have := li.rws; rw [← z, he] at this; cases this
  refine ⟨by rw [List.getElem?_set_ne nL]; exact li.ins, by unfold isG; rw [List.getElem?_set_ne nn]; exact li.gr, by rw [List.getElem?_set_ne nr]; exact li.rws, fun c' hc' => ?_, fun c' hc' w' hw' => ?_, li.inj, li.sep, li.sepp⟩
  · rw [List.getElem?_set_ne (li.sep c hc c' hc' w hw)]
    exact li.row c' hc'
  · by_cases q : c' = c ∧ w' = w
    · obtain ⟨rfl, rfl⟩ := q
      rw [List.getElem?_set_self (List.getElem?_eq_some_iff.mp he).1]
      simp only [and_self, if_true]
      rw [List.range_succ, List.map_append]
      rfl
    · rw [List.getElem?_set_ne (fun z => q (let ⟨a, b⟩ := li.inj c hc c' hc' w w' hw hw' z; ⟨a.symm, b.symm⟩)), if_neg q]
      exact li.ent c' hc' w' hw'
end
end Zc
/-! G4F: the lengths are made. -/
namespace Zc
open PySem L2 Z Q
section
variable {h : IH} {L n p r : Nat} {ps : List (Nat × Nat)} {g : Gr}
/-- the rows of the first places -/
structure LB (B H : IH) (L n p r : Nat) (al ps : List (Nat × Nat)) (g : Gr) (ro : Nat × Nat → Nat) (re : Nat × Nat → Nat → Nat) : Prop where
  li : LI H L n p r ro re ps g fun _ _ => 0
  lo : ∀ c ∈ ps, ∀ w, w < exN g c.1 + 2 → B.length ≤ re c w ∧ re c w < H.length
  ro : ∀ c ∈ ps, ro c < H.length
  pl : H[p]? = some (.lst (al.map dC))
  ap : Ap B H
/-! ### what the program's functions tell -/
end
end Zc
/-! G4G: masses; lists of rationals. -/
namespace Zc
open PySem L2 Z Q
section
variable {h : IH} {g : Gr} {n : Nat} {c : Nat × Nat}
/-! ### sums -/
def psum (xs : List Rat) : Rat := xs.foldl (fun t x => t + x) 0
/-- sizes of sums -/
structure SB (K : Nat) (xs : List Rat) : Prop where
  it : ∀ x ∈ xs, RB K x
  su : ∀ i, RB K (psum (xs.take i))
/-- the lengths of a row -/
def lrow (g : Gr) (d : Nat) (c : Nat × Nat) (w : Nat) : List Rat := (List.range (d + 1)).map fun l => lenv g l c w
def mass (g : Gr) (d : Nat) (c : Nat × Nat) (w : Nat) : Rat := psum (lrow g d c w)
/-- the masses of all ways -/
def massesL (g : Gr) (d : Nat) (c : Nat × Nat) : List Rat := (List.range (exN g c.1 + 2)).map fun w => mass g d c w
end
end Zc
/-! G5A: sums; masses by the rules; the total of a place. -/
namespace Zc
open PySem L2 Z Q
section
variable {α β : Type}
end
/-- the first n -/
def sm (f : Nat → Rat) (n : Nat) : Rat := psum ((List.range n).map f)
section
variable {g : Gr} {c : Nat × Nat} {w : Nat}
/-- the runs that come back -/
def back (g : Gr) (d : Nat) (c : Nat × Nat) (w q : Nat) (ps : List (Nat × Nat)) : Rat := psum (ps.map fun p => sm (fun f => lenv g f (q, 0) p.2 * mass g (d - 1 - f) (c.1, p.1) w) d)
/-- the total of all ways -/
def tot (g : Gr) (d : Nat) (c : Nat × Nat) : Rat := psum (massesL g d c)
end
end Zc
/-! G18P: what is reached, plain; graphs in other orders, plain. -/
namespace Zc
open PySem L2 Z Q
inductive Rch (g : Gr) (c : Nat × Nat) : Nat × Nat → Prop where
  | refl : Rch g c c
  | step {d o : Nat × Nat} {x : Pt} : Rch g c d → isP g d x → o ∈ tgs d.1 x → inG g o → Rch g c o
section
variable {g : Gr}
theorem Rch.inG {c o : Nat × Nat} (hc : inG g c) (h : Rch g c o) : inG g o := by
  cases h with
  | refl => exact hc
  | step _ _ _ f => exact f
/-! ### the targets of a good graph's points stand in it -/
end
/-! ### other orders -/
def mvP (ord os : List Nat) : Pt → Pt
  | .draw bs => .draw (bs.map fun b => (b.1, os.idxOf b.2))
  | .choose ps => .choose (ps.map os.idxOf)
  | .call q ps => .call (ord.idxOf q) (ps.map os.idxOf)
  | .reward a q => .reward a (os.idxOf q)
  | x => x
def ptD (p : Pr) (i : Nat) : Pt := p.pts.getD i .stop
def prD (g : Gr) (q : Nat) : Pr := g.getD q ⟨0, []⟩
def osD (ords : List (List Nat)) (q : Nat) : List Nat := ords.getD q []
/-- the graph in these orders -/
def rbP (g : Gr) (ord : List Nat) (ords : List (List Nat)) (old : Nat) : Pr := ⟨(prD g old).ex, (osD ords old).map fun i => mvP ord (osD ords old) (ptD (prD g old) i)⟩
def rb (g : Gr) (ord : List Nat) (ords : List (List Nat)) : Gr := ord.map (rbP g ord ords)
structure OrdOk (g : Gr) (ord : List Nat) (ords : List (List Nat)) : Prop where
  len : ords.length = g.length
  nd : ord.Nodup
  lt : ∀ q ∈ ord, q < g.length
  h0 : ord[0]? = some 0
  ndP : ∀ q ∈ ord, (osD ords q).Nodup
  ltP : ∀ q ∈ ord, ∀ i ∈ osD ords q, i < (prD g q).pts.length
  hP : ∀ q ∈ ord, (osD ords q)[0]? = some 0
  cl : ∀ q ∈ ord, ∀ i ∈ osD ords q, ∀ j ∈ tg (ptD (prD g q) i), j ∈ osD ords q
  clC : ∀ q ∈ ord, ∀ i ∈ osD ords q, ∀ r ps, ptD (prD g q) i = .call r ps → r ∈ ord
section
variable {g : Gr} {ord : List Nat} {ords : List (List Nat)}
theorem rb_get {a q : Nat} (h : ord[a]? = some q) : (rb g ord ords)[a]? = some (rbP g ord ords q) := by unfold rb; rw [List.getElem?_map, h]; rfl
theorem rbP_len {q : Nat} : (rbP g ord ords q).pts.length = (osD ords q).length := by simp [rbP]
theorem rbP_get {q i j : Nat} (h : (osD ords q)[i]? = some j) : (rbP g ord ords q).pts[i]? = some (mvP ord (osD ords q) (ptD (prD g q) j)) := by unfold rbP; simp only [List.getElem?_map, h]; rfl
/-- the place that a place was -/
def oldc (ord : List Nat) (ords : List (List Nat)) (c : Nat × Nat) : Nat × Nat := (ord.getD c.1 0, (osD ords (ord.getD c.1 0)).getD c.2 0)
theorem getD_of {l : List Nat} {i a d : Nat} (h : l[i]? = some a) : l.getD i d = a := by rw [List.getD_eq_getElem?_getD, h]; rfl
structure Was (g : Gr) (ord : List Nat) (ords : List (List Nat)) (c : Nat × Nat) (q i : Nat) : Prop where
  hq : ord[c.1]? = some q
  hi : (osD ords q)[c.2]? = some i
theorem Was.inG {c : Nat × Nat} {q i : Nat} (w : Was g ord ords c q i) : inG (rb g ord ords) c := ⟨_, rb_get w.hq, by rw [rbP_len]; exact (List.getElem?_eq_some_iff.mp w.hi).1⟩
theorem Was.old {c : Nat × Nat} {q i : Nat} (w : Was g ord ords c q i) : oldc ord ords c = (q, i) := by unfold oldc; rw [getD_of w.hq, getD_of w.hi]
theorem Was.isP {c : Nat × Nat} {q i : Nat} (w : Was g ord ords c q i) : isP (rb g ord ords) c (mvP ord (osD ords q) (ptD (prD g q) i)) := ⟨_, rb_get w.hq, rbP_get w.hi⟩
end
end Zc
/-! W1: stepping through mirrors: what is wanted behind an expression, a statement. -/
namespace Zc
open PySem L2 Z Q
/-- behind an expression -/
@[irreducible] def rp {α : Type} (r : R α) (Q : α → IH → Prop) (X : Exc → IH → Prop) : Prop := match r with
  | .ok a h => Q a h
  | .exc x h => X x h
  | .stuck => False
/-- behind a statement -/
structure Ct where
  nx : Ev → IH → Prop
  rt : D → IH → Prop
  bk : Ev → IH → Prop
  ct : Ev → IH → Prop
  xc : Exc → Ev → IH → Prop
@[irreducible] def sp (r : RS) (c : Ct) : Prop := match r with
  | .nx e h => c.nx e h
  | .rt d h => c.rt d h
  | .bk e h => c.bk e h
  | .ct e h => c.ct e h
  | .exc x e h => c.xc x e h
  | .stuck => False
abbrev noX : Exc → IH → Prop := fun _ _ => False
section
variable {α β : Type} {r : R α} {Q Q' : α → IH → Prop} {X X' : Exc → IH → Prop} {h h' h1 h2 : IH} {c : Ct} {env : Ev}
theorem rp_okI {a : α} : rp (.ok a h) Q X ↔ Q a h := by unfold rp; exact Iff.rfl
theorem rp_excI {x : Exc} : rp (.exc x h) Q X ↔ X x h := by unfold rp; exact Iff.rfl
theorem rp_stuckI : rp .stuck Q X ↔ False := by unfold rp; exact Iff.rfl
theorem sp_nxI {e : Ev} : sp (.nx e h) c ↔ c.nx e h := by unfold sp; exact Iff.rfl
theorem sp_rtI {d : D} : sp (.rt d h) c ↔ c.rt d h := by unfold sp; exact Iff.rfl
theorem sp_bkI {e : Ev} : sp (.bk e h) c ↔ c.bk e h := by unfold sp; exact Iff.rfl
theorem sp_ctI {e : Ev} : sp (.ct e h) c ↔ c.ct e h := by unfold sp; exact Iff.rfl
theorem sp_excI {x : Exc} {e : Ev} : sp (.exc x e h) c ↔ c.xc x e h := by unfold sp; exact Iff.rfl
theorem sp_stuckI : sp .stuck c ↔ False := by unfold sp; exact Iff.rfl
theorem rp_ok {a : α} (H : Q a h) : rp (.ok a h) Q X := rp_okI.mpr H
theorem rp_eq {a : α} (e : r = .ok a h) (H : Q a h) : rp r Q X := by rw [e]; exact rp_ok H
theorem rp_to (H : rp r Q noX) : ∃ a h, r = .ok a h ∧ Q a h := by
  cases r with
  | ok a h => exact ⟨a, h, rfl, rp_okI.mp H⟩
  | exc x h => exact (rp_excI.mp H).elim
  | stuck => exact (rp_stuckI.mp H).elim
theorem rp_to' {v : α} (H : rp r (fun d g => d = v ∧ g = h) noX) : r = .ok v h := by
  obtain ⟨a, g, e, rfl, rfl⟩ := rp_to H
  exact e
theorem rp_mono (H : rp r Q X) (q : ∀ a g, Q a g → Q' a g) (x : ∀ y g, X y g → X' y g) : rp r Q' X' := by
  cases r with
  | ok a h => exact rp_ok (q _ _ (rp_okI.mp H))
  | exc y g => exact rp_excI.mpr (x _ _ (rp_excI.mp H))
  | stuck => exact (rp_stuckI.mp H).elim
theorem rp_bind {f : α → IH → R β} {Q : β → IH → Prop} (H : rp r (fun a h => rp (f a h) Q X) X) : rp (r.bindG .exc .stuck f) Q X := by
  cases r with
  | ok a h => exact rp_okI.mp H
  | exc y g => exact rp_excI.mpr (rp_excI.mp H)
  | stuck => exact (rp_stuckI.mp H).elim
theorem rp_thenS {f : α → IH → RS} (H : rp r (fun a h => sp (f a h) c) fun x h => c.xc x env h) : sp (r.bindG (fun x h => .exc x env h) .stuck f) c := by
  cases r with
  | ok a h => exact rp_okI.mp H
  | exc y g => exact sp_excI.mpr (rp_excI.mp H)
  | stuck => exact (rp_stuckI.mp H).elim
theorem rp_bindO {f : α → β} {Q : β → IH → Prop} (H : rp r (fun a h => Q (f a) h) X) : rp (r.bindG .exc .stuck fun a h => .ok (f a) h) Q X := rp_bind (rp_mono H (fun _ _ q => rp_ok q) fun _ _ q => q)
end
section
variable {Q : D → IH → Prop} {X : Exc → IH → Prop} {h : IH} {env : Ev} {ma mb mo mi' : ME} {mt : MT} {ms : MA} {m1 m2 : MS} {c : Ct} {i : Nat}
/-! ### expressions -/
theorem rp_bin {o : MO} (H : rp (ma env h) (fun x h => rp (mb env h) (fun y h => rp (o x y h) Q X) X) X) : rp (binM o ma mb env h) Q X := by
  refine rp_bind ?_
  exact rp_mono H (fun a g q => rp_bind q) fun _ _ q => q
theorem rp_call {F : MF} (H : rp (ms env h) (fun ds h => rp (F ds h) Q X) X) : rp (callM F ms env h) Q X := rp_bind H
theorem rp_anil {Q : List D → IH → Prop} (H : Q [] h) : rp (anilM env h) Q X := rp_ok H
theorem rp_acons {Q : List D → IH → Prop} (H : rp (ma env h) (fun d h => rp (ms env h) (fun ds h => Q (d :: ds) h) X) X) : rp (aconsM ma ms env h) Q X := by
  refine rp_bind ?_
  exact rp_mono H (fun a g q => rp_bindO (f := fun ds => a :: ds) q) fun _ _ q => q
theorem rp_tup (H : rp (ms env h) (fun ds h => ds.length ≤ 16777216 ∧ Q (.tup ds) h) X) : rp (tupM ms env h) Q X := by
  refine rp_bind ?_
  refine rp_mono H (fun a g q => ?_) fun _ _ q => q
  rw [if_pos (le_line q.1)]
  exact rp_ok q.2
/-- a list is laid: it stands at k -/
def New (h : IH) (xs : List D) (Q : D → IH → Prop) : Prop := ∀ (k : Nat) (h' : IH), Ap h h' → h'[k]? = some (.lst xs) → h.length ≤ k → h'.length = k + 1 → Q (.ref k) h'
theorem New.at {xs : List D} (H : New h xs Q) : Q (.ref h.length) (h ++ [.lst xs]) := H _ _ .app List.getElem?_concat_length (Nat.le_refl _) (by simp)
theorem rp_newL {xs : List D} (H : New h xs Q) : rp (newL h xs) Q X := rp_ok H.at
theorem rp_lst (H : rp (ms env h) (fun ds h => ds.length ≤ 16777216 ∧ New h ds Q) X) : rp (lstM ms env h) Q X := by
  refine rp_bind ?_
  refine rp_mono H (fun a g q => ?_) fun _ _ q => q
  rw [if_pos (le_line q.1)]
  exact rp_ok q.2.at
theorem rp_ite (H : rp (mt env h) (fun b h => if b = true then rp (ma env h) Q X else rp (mb env h) Q X) X) : rp (iteM mt ma mb env h) Q X := by
  refine rp_bind ?_
  refine rp_mono H (fun a g q => ?_) fun _ _ q => q
  by_cases z : a = true
  · rw [if_pos z] at q ⊢; exact q
  · rw [if_neg z] at q ⊢; exact q
theorem rp_and (H : rp (ma env h) (fun d h => ∃ b, truB h d = some b ∧ if b = true then rp (mb env h) Q X else Q d h) X) : rp (andM ma mb env h) Q X := by
  refine rp_bind ?_
  refine rp_mono H (fun a g q => ?_) fun _ _ q => q
  obtain ⟨b, e, q⟩ := q
  rw [e]
  cases b with
  | true => exact q
  | false => exact rp_ok q
theorem rp_or (H : rp (ma env h) (fun d h => ∃ b, truB h d = some b ∧ if b = true then Q d h else rp (mb env h) Q X) X) : rp (orM ma mb env h) Q X := by
  refine rp_bind ?_
  refine rp_mono H (fun a g q => ?_) fun _ _ q => q
  obtain ⟨b, e, q⟩ := q
  rw [e]
  cases b with
  | true => exact rp_ok q
  | false => exact q
/-! ### tests -/
section
variable {Q : Bool → IH → Prop} {mt' : MT}
theorem rp_test (H : rp (ma env h) (fun d h => ∃ b, truB h d = some b ∧ Q b h) X) : rp (testM ma env h) Q X := by
  refine rp_bind ?_
  refine rp_mono H (fun a g q => ?_) fun _ _ q => q
  obtain ⟨b, e, q⟩ := q
  rw [e]
  exact rp_ok q
theorem rp_btest (H : rp (ma env h) (fun d h => ∃ b, d = .bl b ∧ Q b h) X) : rp (btestM ma env h) Q X := by
  refine rp_bind ?_
  refine rp_mono H (fun a g q => ?_) fun _ _ q => q
  obtain ⟨b, rfl, q⟩ := q
  exact rp_ok q
theorem rp_tnot (H : rp (mt env h) (fun b h => Q (!b) h) X) : rp (tnotM mt env h) Q X := rp_bindO (f := fun b => !b) H
theorem rp_tand (H : rp (mt env h) (fun b h => if b = true then rp (mt' env h) Q X else Q false h) X) : rp (tandM mt mt' env h) Q X := by
  refine rp_bind ?_
  refine rp_mono H (fun a g q => ?_) fun _ _ q => q
  cases a with
  | true => exact q
  | false => exact rp_ok q
theorem rp_tor (H : rp (mt env h) (fun b h => if b = true then Q true h else rp (mt' env h) Q X) X) : rp (torM mt mt' env h) Q X := by
  refine rp_bind ?_
  refine rp_mono H (fun a g q => ?_) fun _ _ q => q
  cases a with
  | true => exact rp_ok q
  | false => exact q
end
/-! ### statements -/
theorem sp_seq (H : sp (m1 env h) { c with nx := fun e h => sp (m2 e h) c }) : sp (seqM m1 m2 env h) c := by
  rw [seqM_eq]
  cases q : m1 env h with
  | nx e h => rw [q] at H; (have z := sp_nxI.mp H; exact z)
  | rt d h => rw [q] at H; (have z := sp_rtI.mp H; exact sp_rtI.mpr z)
  | bk e h => rw [q] at H; (have z := sp_bkI.mp H; exact sp_bkI.mpr z)
  | ct e h => rw [q] at H; (have z := sp_ctI.mp H; exact sp_ctI.mpr z)
  | exc x e h => rw [q] at H; (have z := sp_excI.mp H; exact sp_excI.mpr z)
  | stuck => rw [q] at H; (have z := sp_stuckI.mp H; exact z.elim)
theorem sp_set (H : rp (ma env h) (fun d h => c.nx (env.set i (some d)) h) fun x h => c.xc x env h) : sp (setM i ma env h) c := rp_thenS (rp_mono H (fun _ _ q => sp_nxI.mpr q) fun _ _ q => q)
theorem sp_if (H : rp (mt env h) (fun b h => if b = true then sp (m1 env h) c else sp (m2 env h) c) fun x h => c.xc x env h) : sp (ifM mt m1 m2 env h) c := by
  refine rp_thenS (rp_mono H (fun a g q => ?_) fun _ _ q => q)
  cases a <;> exact q
theorem sp_ret (H : rp (ma env h) c.rt fun x h => c.xc x env h) : sp (retM ma env h) c := rp_thenS (rp_mono H (fun _ _ q => sp_rtI.mpr q) fun _ _ q => q)
theorem sp_retN (H : c.rt .non h) : sp (retNM env h) c := sp_rtI.mpr H
theorem sp_expr (H : rp (ma env h) (fun _ h => c.nx env h) fun x h => c.xc x env h) : sp (exprM ma env h) c := rp_thenS (rp_mono H (fun _ _ q => sp_nxI.mpr q) fun _ _ q => q)
theorem sp_next (H : c.nx env h) : sp (nextM env h) c := sp_nxI.mpr H
theorem sp_brk (H : c.bk env h) : sp (brkM env h) c := sp_bkI.mpr H
theorem sp_cont (H : c.ct env h) : sp (contM env h) c := sp_ctI.mpr H
theorem sp_asg {g : MG} (H : rp (ma env h) (fun d h => ∃ e, g d env = some e ∧ c.nx e h) fun x h => c.xc x env h) : sp (asgM g ma env h) c := by
  refine rp_thenS (rp_mono H (fun a k q => ?_) fun _ _ q => q)
  obtain ⟨e, z, q⟩ := q
  rw [z]
  exact sp_nxI.mpr q
theorem sp_par {j : Nat} (H : rp (ms env h) (fun ds h => ∃ d e, ds = [d, e] ∧ c.nx ((env.set i (some d)).set j (some e)) h) fun x h => c.xc x env h) : sp (parM i j ms env h) c := by
  refine rp_thenS (rp_mono H (fun a k q => ?_) fun _ _ q => q)
  obtain ⟨d, e, rfl, q⟩ := q
  exact sp_nxI.mpr q
theorem sp_put {p : MP} (H : rp (ma env h) (fun d h => rp (mo env h) (fun o h => rp (mi' env h) (fun i h => ∃ h', p o i d h = some h' ∧ c.nx env h') fun x h => c.xc x env h) fun x h => c.xc x env h) fun x h => c.xc x env h) : sp (putM p mo mi' ma env h) c := by
  refine rp_thenS (rp_mono H (fun a k q => rp_thenS (rp_mono q (fun a k q => rp_thenS (rp_mono q (fun a k q => ?_) fun _ _ q => q)) fun _ _ q => q)) fun _ _ q => q)
  obtain ⟨h', e, q⟩ := q
  rw [e]
  exact sp_nxI.mpr q
theorem sp_raise {x : Str} {fs : List Str} (H : rp (ms env h) (fun ds h => ds.length = fs.length ∧ fs.length ≤ 900 ∧ c.xc ⟨x, (fs.zip ds).reverse⟩ env h) fun x h => c.xc x env h) : sp (raiseM x fs ms env h) c := by
  refine rp_thenS (rp_mono H (fun a k q => ?_) fun _ _ q => q)
  rw [if_pos ⟨q.1, q.2.1⟩]
  exact sp_excI.mpr q.2.2
/-! ### walks -/
/-- slots written -/
def setsE (env : Ev) : List Nat → List (Option D) → Ev
  | s :: ss, v :: vs => (setsE env ss vs).set s v
  | _, _ => env
theorem setsE_nil {vs : List (Option D)} : setsE env [] vs = env := by cases vs <;> rfl
theorem setsE_cons {s : Nat} {ss : List Nat} {v : Option D} {vs : List (Option D)} : setsE env (s :: ss) (v :: vs) = (setsE env ss vs).set s v := rfl
end
section
variable {α : Type} {h h1 : IH} {env : Ev} {g : MG} {mb : MS} {mi : MI} {c : Ct} {f : α → D}
/-- the ends of a turn -/
def Turn (env : Ev) (ss : List Nat) (c : Ct) (I : List (Option D) → IH → Prop) : Ct where
  nx := fun e H => ∃ vs, e = setsE env ss vs ∧ I vs H
  ct := fun e H => ∃ vs, e = setsE env ss vs ∧ I vs H
  bk := c.nx
  rt := c.rt
  xc := c.xc
theorem turn_next {ss : List Nat} {I : List (Option D) → IH → Prop} {vs : List (Option D)} {e : Ev} {H : IH} (q : e = setsE env ss vs) (i : I vs H) : (Turn env ss c I).nx e H := ⟨vs, q, i⟩
theorem forS_sp (ss : List Nat) (I : Nat → List (Option D) → IH → Prop) (xs : List α)
    (step : ∀ i x vs H, xs[i]? = some x → I i vs H → ∃ e1, g (f x) (setsE env ss vs) = some e1 ∧ sp (mb e1 H) (Turn env ss c (I (i + 1))))
    (fin : ∀ vs H, I xs.length vs H → c.nx (setsE env ss vs) H) :
    ∀ (m i : Nat) (vs : List (Option D)) (H : IH), xs.length - i = m → i ≤ xs.length → I i vs H → sp (forS g mb ((xs.map f).drop i) (setsE env ss vs) H) c
  | 0, i, vs, H, hm, hi, q => by
    have : i = xs.length := by omega
    subst this
    rw [List.drop_of_length_le (by rw [List.length_map]; omega)]
    exact sp_nxI.mpr (fin vs H q)
  | m + 1, i, vs, H, hm, hi, q => by
    have hi' : i < xs.length := by omega
    obtain ⟨e1, h1, h2⟩ := step i xs[i] vs H (List.getElem?_eq_getElem hi') q
    have go : ∀ vs H, I (i + 1) vs H → sp (forS g mb ((xs.map f).drop (i + 1)) (setsE env ss vs) H) c := fun vs H q => forS_sp ss I xs step fin m (i + 1) vs H (by omega) hi' q
    rw [List.drop_eq_getElem_cons (by rw [List.length_map]; exact hi'), List.getElem_map, forS_cons, turnM_eq, h1]
    dsimp only
    cases r : mb e1 H with
    | nx e h => rw [r] at h2; obtain ⟨vs, rfl, q⟩ := sp_nxI.mp h2; exact go vs h q
    | ct e h => rw [r] at h2; obtain ⟨vs, rfl, q⟩ := sp_ctI.mp h2; exact go vs h q
    | bk e h => rw [r] at h2; (have z := sp_bkI.mp h2; exact sp_nxI.mpr z)
    | rt d h => rw [r] at h2; (have z := sp_rtI.mp h2; exact sp_rtI.mpr z)
    | exc x e h => rw [r] at h2; (have z := sp_excI.mp h2; exact sp_excI.mpr z)
    | stuck => rw [r] at h2; (have z := sp_stuckI.mp h2; exact z.elim)
/-- a for over what stands still -/
theorem sp_for (ss : List Nat) (xs : List α) (f : α → D) (I : Nat → List (Option D) → IH → Prop) {vs : List (Option D)} (e : mi env h = .ok (.snap (xs.map f)) h1) (e0 : setsE env ss vs = env) (i0 : I 0 vs h1)
    (step : ∀ i x vs H, xs[i]? = some x → I i vs H → ∃ e1, g (f x) (setsE env ss vs) = some e1 ∧ sp (mb e1 H) (Turn env ss c (I (i + 1))))
    (fin : ∀ vs H, I xs.length vs H → c.nx (setsE env ss vs) H) : sp (Z.forM mi g mb env h) c := by
  rw [forM_eq, e]
  have := forS_sp (f := f) ss I xs step fin xs.length 0 vs h1 rfl (Nat.zero_le _) i0
  rw [List.drop_zero, e0] at this
  exact this
theorem forV_sp {v : IH → Option (List D)} (ss : List Nat) (I : Nat → List (Option D) → IH → Prop) (xs : List α) (view : ∀ i vs H, I i vs H → v H = some (xs.map f))
    (step : ∀ i x vs H, xs[i]? = some x → I i vs H → ∃ e1, g (f x) (setsE env ss vs) = some e1 ∧ sp (mb e1 H) (Turn env ss c (I (i + 1))))
    (fin : ∀ vs H, I xs.length vs H → c.nx (setsE env ss vs) H) :
    ∀ (n i : Nat) (vs : List (Option D)) (H : IH), xs.length - i < n → i ≤ xs.length → I i vs H → sp (forV g mb v n i (setsE env ss vs) H) c
  | 0, i, vs, H, hm, hi, q => by omega
  | n + 1, i, vs, H, hm, hi, q => by
    have un : forV g mb v (n + 1) i (setsE env ss vs) H = (match v H with
      | none => RS.stuck
      | some ds => match ds[i]? with
        | none => .nx (setsE env ss vs) H
        | some d => turnM g mb d (setsE env ss vs) H (forV g mb v n (i + 1))) := rfl
    rw [un, view i vs H q]
    dsimp only
    rw [List.getElem?_map]
    by_cases ci : i = xs.length
    · subst ci
      rw [List.getElem?_eq_none (Nat.le_refl _)]
      exact sp_nxI.mpr (fin vs H q)
    · have hi' : i < xs.length := by omega
      obtain ⟨e1, h1, h2⟩ := step i xs[i] vs H (List.getElem?_eq_getElem hi') q
      have go : ∀ vs H, I (i + 1) vs H → sp (forV g mb v n (i + 1) (setsE env ss vs) H) c := fun vs H q => forV_sp ss I xs view step fin n (i + 1) vs H (by omega) hi' q
      rw [List.getElem?_eq_getElem hi', Option.map_some]
      dsimp only
      rw [turnM_eq, h1]
      dsimp only
      cases r : mb e1 H with
      | nx e h => rw [r] at h2; obtain ⟨vs, rfl, q⟩ := sp_nxI.mp h2; exact go vs h q
      | ct e h => rw [r] at h2; obtain ⟨vs, rfl, q⟩ := sp_ctI.mp h2; exact go vs h q
      | bk e h => rw [r] at h2; (have z := sp_bkI.mp h2; exact sp_nxI.mpr z)
      | rt d h => rw [r] at h2; (have z := sp_rtI.mp h2; exact sp_rtI.mpr z)
      | exc x e h => rw [r] at h2; (have z := sp_excI.mp h2; exact sp_excI.mpr z)
      | stuck => rw [r] at h2; (have z := sp_stuckI.mp h2; exact z.elim)
/-- a for over a list that stays as it is -/
theorem sp_forV {v : IH → Option (List D)} (ss : List Nat) (xs : List α) (f : α → D) (I : Nat → List (Option D) → IH → Prop) {vs : List (Option D)} (e : mi env h = .ok (.live v) h1) (hl : xs.length < 2 ^ 60) (e0 : setsE env ss vs = env) (i0 : I 0 vs h1)
    (view : ∀ i vs H, I i vs H → v H = some (xs.map f))
    (step : ∀ i x vs H, xs[i]? = some x → I i vs H → ∃ e1, g (f x) (setsE env ss vs) = some e1 ∧ sp (mb e1 H) (Turn env ss c (I (i + 1))))
    (fin : ∀ vs H, I xs.length vs H → c.nx (setsE env ss vs) H) : sp (Z.forM mi g mb env h) c := by
  rw [forM_eq, e]
  have := forV_sp (f := f) (v := v) ss I xs view step fin LOOP 0 vs h1 (by unfold LOOP; omega) (Nat.zero_le _) i0
  rw [e0] at this
  exact this
end
/-! ### while -/
section
variable {h : IH} {env : Ev} {mt : MT} {mb : MS} {c : Ct}
end
/-! ### comprehensions -/
section
variable {α : Type} {h h1 : IH} {env : Ev} {g : MG} {mt : MT} {me : ME} {mi : MI} {f : α → D} {own : List Nat} {Q : D → IH → Prop} {X : Exc → IH → Prop}
/-- one item -/
def ItJ (mt : MT) (me : ME) (e : Ev) (H : IH) (acc : List D) (J : List D → IH → Prop) : Prop := rp (mt e H) (fun b H => if b = true then rp (me e H) (fun d H => J (acc ++ [d]) H) noX else J acc H) noX
theorem lcS_sp (J : Nat → List D → IH → Prop) (xs : List α) (env : Ev)
    (step : ∀ i x acc H, xs[i]? = some x → J i acc H → ∃ e, g (f x) env = some e ∧ ItJ mt me e H acc (J (i + 1))) :
    ∀ (m i : Nat) (acc : List D) (H : IH), xs.length - i = m → i ≤ xs.length → J i acc H → ∃ ys H', lcS g mt me env ((xs.map f).drop i) H = .ok ys H' ∧ J xs.length (acc ++ ys) H'
  | 0, i, acc, H, hm, hi, q => by
    have : i = xs.length := by omega
    subst this
    rw [List.drop_of_length_le (by rw [List.length_map]; omega)]
    exact ⟨[], H, rfl, by rw [List.append_nil]; exact q⟩
  | m + 1, i, acc, H, hm, hi, q => by
    have hi' : i < xs.length := by omega
    obtain ⟨e, h1, h2⟩ := step i xs[i] acc H (List.getElem?_eq_getElem hi') q
    rw [List.drop_eq_getElem_cons (by rw [List.length_map]; exact hi'), List.getElem_map]
    obtain ⟨b, H1, e1, h3⟩ := rp_to h2
    have go := lcS_sp J xs env step m (i + 1)
    cases b with
    | false =>
      obtain ⟨ys, H', r1, r2⟩ := go acc H1 (by omega) hi' h3
      refine ⟨ys, H', ?_, r2⟩
      rw [← r1]
      show (match g (f xs[i]) env with
        | none => R.stuck
        | some e => (mt e H).bindG (fun _ _ => .stuck) .stuck fun b h => if b = true then (me e h).bindG (fun _ _ => .stuck) .stuck fun y h => (lcS g mt me env ((xs.map f).drop (i + 1)) h).bind fun ys h => .ok (y :: ys) h else lcS g mt me env ((xs.map f).drop (i + 1)) h) = _
      rw [h1]
      dsimp only
      rw [e1]
      rfl
    | true =>
      obtain ⟨d, H2, e2, h4⟩ := rp_to (show rp (me e H1) (fun d H => J (i + 1) (acc ++ [d]) H) noX from h3)
      obtain ⟨ys, H', r1, r2⟩ := go (acc ++ [d]) H2 (by omega) hi' h4
      refine ⟨d :: ys, H', ?_, by rw [List.append_assoc] at r2; exact r2⟩
      show (match g (f xs[i]) env with
        | none => R.stuck
        | some e => (mt e H).bindG (fun _ _ => .stuck) .stuck fun b h => if b = true then (me e h).bindG (fun _ _ => .stuck) .stuck fun y h => (lcS g mt me env ((xs.map f).drop (i + 1)) h).bind fun ys h => .ok (y :: ys) h else lcS g mt me env ((xs.map f).drop (i + 1)) h) = _
      rw [h1]
      dsimp only
      rw [e1]
      show (me e H1).bindG (fun _ _ => .stuck) .stuck (fun y h => (lcS g mt me env ((xs.map f).drop (i + 1)) h).bind fun ys h => .ok (y :: ys) h) = _
      rw [e2]
      show (lcS g mt me env ((xs.map f).drop (i + 1)) H2).bind (fun ys h => .ok (d :: ys) h) = _
      rw [r1]
      rfl
/-- a comprehension over what stands still; J: items done, made, heap -/
theorem rp_lcJ (xs : List α) (f : α → D) (J : Nat → List D → IH → Prop) (e : mi env h = .ok (.snap (xs.map f)) h1) (hl : xs.length ≤ 16777215) (j0 : J 0 [] h1)
    (step : ∀ i x acc H, xs[i]? = some x → J i acc H → ∃ e, g (f x) (wipeE env own) = some e ∧ ItJ mt me e H acc (J (i + 1)))
    (fin : ∀ ys H, J xs.length ys H → New H ys Q) : rp (lcM mi own g mt me env h) Q X := by
  obtain ⟨ys, H, e1, j⟩ := lcS_sp (f := f) (g := g) (mt := mt) (me := me) J xs (wipeE env own) step xs.length 0 [] h1 rfl (Nat.zero_le _) j0
  rw [List.drop_zero] at e1
  unfold lcM
  rw [e]
  have ln : (xs.map f).length ≤ MOST := by unfold MOST; rw [List.length_map]; exact hl
  simp only [R.bind, R.bindG_ok, ln, if_true, e1]
  exact rp_ok (fin ys H (by simpa using j)).at
/-- each item by itself, the heap as before: those of which b holds, r of each -/
def ItF (mt : MT) (me : ME) (e : Ev) (H : IH) (b : Bool) (d : D) : Prop := mt e H = .ok b H ∧ (b = true → me e H = .ok d H)
theorem ItF.j {e : Ev} {H : IH} {b : Bool} {d : D} {acc : List D} {J : List D → IH → Prop} (w : ItF mt me e H b d) (j : J (if b = true then acc ++ [d] else acc) H) : ItJ mt me e H acc J := by
  unfold ItJ
  rw [w.1]
  refine rp_ok ?_
  cases b with
  | false => exact j
  | true =>
    show rp (me e H) _ _
    rw [w.2 rfl]
    exact rp_ok j
theorem fil_take {b : α → Bool} {r : α → D} {xs : List α} {i : Nat} {x : α} (hx : xs[i]? = some x) : (if b x = true then (((xs.take i).filter b).map r) ++ [r x] else ((xs.take i).filter b).map r) = ((xs.take (i + 1)).filter b).map r := by
  rw [List.take_add_one, hx, List.filter_append, List.map_append]
  by_cases c : b x = true
  · rw [if_pos c]; simp [c]
  · rw [if_neg c]; simp [c]
theorem rp_lcF (xs : List α) (f : α → D) (b : α → Bool) (r : α → D) (e : mi env h = .ok (.snap (xs.map f)) h1) (hl : xs.length ≤ 16777215)
    (step : ∀ x ∈ xs, ∃ e, g (f x) (wipeE env own) = some e ∧ ItF mt me e h1 (b x) (r x)) (fin : New h1 ((xs.filter b).map r) Q) : rp (lcM mi own g mt me env h) Q X := by
  refine rp_lcJ xs f (fun i acc H => acc = ((xs.take i).filter b).map r ∧ H = h1) e hl ⟨rfl, rfl⟩ ?_ ?_
  · rintro i x acc H hx ⟨rfl, rfl⟩
    obtain ⟨e, e1, w⟩ := step x (List.mem_of_getElem? hx)
    exact ⟨e, e1, w.j ⟨fil_take hx, rfl⟩⟩
  · rintro ys H ⟨rfl, rfl⟩
    rw [List.take_of_length_le (Nat.le_refl _)]
    exact fin
/-- without a choice -/
theorem rp_lc (xs : List α) (f : α → D) (r : α → D) (e : mi env h = .ok (.snap (xs.map f)) h1) (hl : xs.length ≤ 16777215)
    (step : ∀ x ∈ xs, ∃ e, g (f x) (wipeE env own) = some e ∧ rp (me e h1) (fun d H => d = r x ∧ H = h1) noX) (fin : New h1 (xs.map r) Q) : rp (lcM mi own g yesM me env h) Q X := by
  refine rp_lcF xs f (fun _ => true) r e hl (fun x hx => ?_) (by rw [List.filter_eq_self.mpr fun _ _ => rfl]; exact fin)
  obtain ⟨e, e1, w⟩ := step x hx
  exact ⟨e, e1, rfl, fun _ => rp_to' w⟩
end
/-! ### defs -/
section
variable {Q : D → IH → Prop} {X : Exc → IH → Prop} {h h' : IH} {d : D} {n k : Nat} {m : MS} {ds : List D}
/-- behind a def: what it made is forgotten, if it hands nothing of it out -/
def tq (h : IH) (Q : D → IH → Prop) (d : D) (h' : IH) : Prop := rp (trunc h (.ok d h')) Q noX
def tx (h : IH) (X : Exc → IH → Prop) (x : Exc) (h' : IH) : Prop := rp (trunc h (.exc x h')) (fun _ _ => False) X
def dct (h : IH) (Q : D → IH → Prop) (X : Exc → IH → Prop) : Ct := ⟨fun _ h' => tq h Q .non h', tq h Q, fun _ _ => False, fun _ _ => False, fun x _ h' => tx h X x h'⟩
theorem rp_def (H : sp (m (ds.map some ++ List.replicate (n - ds.length) none) h) (dct h Q X)) : rp (defM n m ds h) Q X := by
  have t1 : ∀ d h', tq h Q d h' → rp (trunc h (.ok d h')) Q X := fun d h' z => by
    obtain ⟨a, g, e, q⟩ := rp_to z
    rw [e]; exact rp_ok q
  have t2 : ∀ x h', tx h X x h' → rp (trunc h (.exc x h')) Q X := fun d h' z => by
    unfold tx at z
    exact rp_mono z (fun _ _ q => q.elim) fun _ _ q => q
  unfold defM
  cases q : m (ds.map some ++ List.replicate (n - ds.length) none) h with
  | nx e h => rw [q] at H; exact t1 _ _ (sp_nxI.mp H)
  | rt d h => rw [q] at H; exact t1 _ _ (sp_rtI.mp H)
  | bk e h => rw [q] at H; (have z := sp_bkI.mp H; exact z.elim)
  | ct e h => rw [q] at H; (have z := sp_ctI.mp H; exact z.elim)
  | exc x e h => rw [q] at H; exact t2 _ _ (sp_excI.mp H)
  | stuck => rw [q] at H; (have z := sp_stuckI.mp H; exact z.elim)
theorem tq_ap (w : Ap h h') (c : d.lt h.length = true) (H : Q d h) : tq h Q d h' := by unfold tq; rw [trunc_ap w c]; exact rp_ok H
theorem tq_same (H : Q d h) : tq h Q d h := by unfold tq; rw [trunc_same]; exact rp_ok H
theorem tq_new (c : h.length ≤ k) (H : Q (.ref k) h') : tq h Q (.ref k) h' := by unfold tq; rw [trunc_new c]; exact rp_ok H
theorem tq_any (H : Q d h') (H2 : h'.take h.length = h → d.lt h.length = true → Q d h) : tq h Q d h' := by
  unfold tq
  rw [trunc_ok]
  split
  · rename_i c; exact rp_ok (H2 c.2 c.1)
  · exact rp_ok H
theorem tq_gw {n m : Nat} (w0 : St n h) (hn : n ≤ m) (w : Gw m h h') (H : ∀ h2, Gw m h h2 → Q d h2) : tq h Q d h' := by
  obtain ⟨h2, e, w2⟩ := trunc_gw (d := d) w0 hn w
  unfold tq
  rw [e]
  exact rp_ok (H h2 w2)
end
/-! ### objects changed -/
section
variable {h : IH} {k : Nat} {xs : List D} {d : D} {Q : D → IH → Prop} {X : Exc → IH → Prop} {env : Ev} {mo : ME} {ms : MA}
/-- the object at k is changed, all others stand -/
structure Up (k : Nat) (h h' : IH) : Prop where
  len : h'.length = h.length
  keep : ∀ i, i ≠ k → h'[i]? = h[i]?
theorem Up.set {o : IO} : Up k h (h.set k o) := ⟨by simp, fun i hi => List.getElem?_set_ne (fun z => hi z.symm)⟩
theorem Up.get {h' : IH} {i : Nat} {o : IO} (w : Up k h h') (e : h[i]? = some o) (hi : i ≠ k) : h'[i]? = some o := (w.keep i hi).trans e
theorem Up.ap {h0 h' : IH} (w : Up k h h') (a : Ap h0 h) (c : h0.length ≤ k) : Ap h0 h' := ⟨by rw [w.len]; exact a.len, fun i hi => (w.keep i (by omega)).trans (a.keep i hi)⟩
theorem Up.gw {h0 h' : IH} {n : Nat} (w : Up k h h') (a : Gw n h0 h) (c : h0.length ≤ k) (c2 : 2 ≤ k) : Gw n h0 h' := ⟨a.st.of (w.keep 0 (by omega)) (w.keep 1 (by omega)), by rw [w.len]; exact a.len, fun i h2 hi => (w.keep i (by omega)).trans (a.keep i h2 hi)⟩
theorem rp_append (e : h[k]? = some (.lst xs)) (hl : xs.length < 16777216) (H : ∀ h', Up k h h' → h'[k]? = some (.lst (xs ++ [d])) → Q .non h') : rp (appendF (.ref k) [d] h) Q X := by
  rw [append_ref e hl]
  exact rp_ok <| H _ .set (List.getElem?_set_self (List.getElem?_eq_some_iff.mp e).1)
theorem rp_meth {m : MMt} {k : Nat} (H : rp (mo env h) (fun d h => ∃ xs, lisOf h d = some xs ∧ rp (ms env h) (fun ds h => rp (m d ds h) Q X) X) X) : rp (methM m mo ms env h) Q X := by
  refine rp_bind ?_
  refine rp_mono H (fun a g q => ?_) fun _ _ q => q
  obtain ⟨xs, e, q⟩ := q
  rw [e]
  exact rp_bind q
end
section
variable {h h1 : IH} {env : Ev} {ms : MA} {n : Nat} {P : Nat → IH → Prop} {r : R D}
theorem rng_n (e : ms env h = .ok [iD n] h1) (hn : n ≤ 1000000000) : rngI1 ms env h = .ok (.snap ((List.range n).map iD)) h1 := by
  rw [← rngD_map]
  exact rngI1_int e (by omega) (by omega) (by omega)
theorem range_at {i x : Nat} (hx : (List.range n)[i]? = some x) : i = x ∧ i < n := by
  have hi := (List.getElem?_eq_some_iff.mp hx).1
  rw [List.length_range] at hi
  rw [List.getElem?_range hi] at hx
  cases hx
  exact ⟨rfl, hi⟩
theorem wipeE_nil : wipeE env [] = env := rfl
theorem wipeE_cons {v : Nat} {vs : List Nat} : wipeE env (v :: vs) = (wipeE env vs).set v none := rfl
end
/-! words -/
section
variable {h : IH}
@[simp] theorem ww_exit_exit : eqM (.str "exit") (.str "exit") h = .ok (.bl true) h := by rw [str_eq]; rfl
@[simp] theorem ww_exit_draw : eqM (.str "exit") (.str "draw") h = .ok (.bl false) h := by rw [str_eq]; rfl
@[simp] theorem ww_exit_choose : eqM (.str "exit") (.str "choose") h = .ok (.bl false) h := by rw [str_eq]; rfl
@[simp] theorem ww_exit_call : eqM (.str "exit") (.str "call") h = .ok (.bl false) h := by rw [str_eq]; rfl
@[simp] theorem ww_exit_reward : eqM (.str "exit") (.str "reward") h = .ok (.bl false) h := by rw [str_eq]; rfl
@[simp] theorem ww_exit_reject : eqM (.str "exit") (.str "reject") h = .ok (.bl false) h := by rw [str_eq]; rfl
@[simp] theorem ww_exit_stop : eqM (.str "exit") (.str "stop") h = .ok (.bl false) h := by rw [str_eq]; rfl
@[simp] theorem ww_draw_exit : eqM (.str "draw") (.str "exit") h = .ok (.bl false) h := by rw [str_eq]; rfl
@[simp] theorem ww_draw_draw : eqM (.str "draw") (.str "draw") h = .ok (.bl true) h := by rw [str_eq]; rfl
@[simp] theorem ww_draw_choose : eqM (.str "draw") (.str "choose") h = .ok (.bl false) h := by rw [str_eq]; rfl
@[simp] theorem ww_draw_call : eqM (.str "draw") (.str "call") h = .ok (.bl false) h := by rw [str_eq]; rfl
@[simp] theorem ww_draw_reward : eqM (.str "draw") (.str "reward") h = .ok (.bl false) h := by rw [str_eq]; rfl
@[simp] theorem ww_draw_reject : eqM (.str "draw") (.str "reject") h = .ok (.bl false) h := by rw [str_eq]; rfl
@[simp] theorem ww_draw_stop : eqM (.str "draw") (.str "stop") h = .ok (.bl false) h := by rw [str_eq]; rfl
@[simp] theorem ww_choose_exit : eqM (.str "choose") (.str "exit") h = .ok (.bl false) h := by rw [str_eq]; rfl
@[simp] theorem ww_choose_draw : eqM (.str "choose") (.str "draw") h = .ok (.bl false) h := by rw [str_eq]; rfl
@[simp] theorem ww_choose_choose : eqM (.str "choose") (.str "choose") h = .ok (.bl true) h := by rw [str_eq]; rfl
@[simp] theorem ww_choose_call : eqM (.str "choose") (.str "call") h = .ok (.bl false) h := by rw [str_eq]; rfl
@[simp] theorem ww_choose_reward : eqM (.str "choose") (.str "reward") h = .ok (.bl false) h := by rw [str_eq]; rfl
@[simp] theorem ww_choose_reject : eqM (.str "choose") (.str "reject") h = .ok (.bl false) h := by rw [str_eq]; rfl
@[simp] theorem ww_choose_stop : eqM (.str "choose") (.str "stop") h = .ok (.bl false) h := by rw [str_eq]; rfl
@[simp] theorem ww_call_exit : eqM (.str "call") (.str "exit") h = .ok (.bl false) h := by rw [str_eq]; rfl
@[simp] theorem ww_call_draw : eqM (.str "call") (.str "draw") h = .ok (.bl false) h := by rw [str_eq]; rfl
@[simp] theorem ww_call_choose : eqM (.str "call") (.str "choose") h = .ok (.bl false) h := by rw [str_eq]; rfl
@[simp] theorem ww_call_call : eqM (.str "call") (.str "call") h = .ok (.bl true) h := by rw [str_eq]; rfl
@[simp] theorem ww_call_reward : eqM (.str "call") (.str "reward") h = .ok (.bl false) h := by rw [str_eq]; rfl
@[simp] theorem ww_call_reject : eqM (.str "call") (.str "reject") h = .ok (.bl false) h := by rw [str_eq]; rfl
@[simp] theorem ww_call_stop : eqM (.str "call") (.str "stop") h = .ok (.bl false) h := by rw [str_eq]; rfl
@[simp] theorem ww_reward_exit : eqM (.str "reward") (.str "exit") h = .ok (.bl false) h := by rw [str_eq]; rfl
@[simp] theorem ww_reward_draw : eqM (.str "reward") (.str "draw") h = .ok (.bl false) h := by rw [str_eq]; rfl
@[simp] theorem ww_reward_choose : eqM (.str "reward") (.str "choose") h = .ok (.bl false) h := by rw [str_eq]; rfl
@[simp] theorem ww_reward_call : eqM (.str "reward") (.str "call") h = .ok (.bl false) h := by rw [str_eq]; rfl
@[simp] theorem ww_reward_reward : eqM (.str "reward") (.str "reward") h = .ok (.bl true) h := by rw [str_eq]; rfl
@[simp] theorem ww_reward_reject : eqM (.str "reward") (.str "reject") h = .ok (.bl false) h := by rw [str_eq]; rfl
@[simp] theorem ww_reward_stop : eqM (.str "reward") (.str "stop") h = .ok (.bl false) h := by rw [str_eq]; rfl
@[simp] theorem ww_reject_exit : eqM (.str "reject") (.str "exit") h = .ok (.bl false) h := by rw [str_eq]; rfl
@[simp] theorem ww_reject_draw : eqM (.str "reject") (.str "draw") h = .ok (.bl false) h := by rw [str_eq]; rfl
@[simp] theorem ww_reject_choose : eqM (.str "reject") (.str "choose") h = .ok (.bl false) h := by rw [str_eq]; rfl
@[simp] theorem ww_reject_call : eqM (.str "reject") (.str "call") h = .ok (.bl false) h := by rw [str_eq]; rfl
@[simp] theorem ww_reject_reward : eqM (.str "reject") (.str "reward") h = .ok (.bl false) h := by rw [str_eq]; rfl
@[simp] theorem ww_reject_reject : eqM (.str "reject") (.str "reject") h = .ok (.bl true) h := by rw [str_eq]; rfl
@[simp] theorem ww_reject_stop : eqM (.str "reject") (.str "stop") h = .ok (.bl false) h := by rw [str_eq]; rfl
@[simp] theorem ww_stop_exit : eqM (.str "stop") (.str "exit") h = .ok (.bl false) h := by rw [str_eq]; rfl
@[simp] theorem ww_stop_draw : eqM (.str "stop") (.str "draw") h = .ok (.bl false) h := by rw [str_eq]; rfl
@[simp] theorem ww_stop_choose : eqM (.str "stop") (.str "choose") h = .ok (.bl false) h := by rw [str_eq]; rfl
@[simp] theorem ww_stop_call : eqM (.str "stop") (.str "call") h = .ok (.bl false) h := by rw [str_eq]; rfl
@[simp] theorem ww_stop_reward : eqM (.str "stop") (.str "reward") h = .ok (.bl false) h := by rw [str_eq]; rfl
@[simp] theorem ww_stop_reject : eqM (.str "stop") (.str "reject") h = .ok (.bl false) h := by rw [str_eq]; rfl
@[simp] theorem ww_stop_stop : eqM (.str "stop") (.str "stop") h = .ok (.bl true) h := by rw [str_eq]; rfl
@[simp] theorem ixM_iD' {n : Nat} {ds : List D} : ixM (.tup ds) (iD n) h = match ds[n]? with
  | some x => .ok x h
  | none => .stuck := ixM_iD
theorem ix_at {n : Nat} {ds : List D} {d : D} (e : ds[n]? = some d) : ixM (.tup ds) (iD n) h = .ok d h := by rw [ixM_iD, e]
theorem ix_atL {n k : Nat} {ds : List D} {d : D} (q : h[k]? = some (.lst ds)) (e : ds[n]? = some d) : ixM (.ref k) (iD n) h = .ok d h := by
  unfold iD
  rw [ixM_ref q, atI_of e]
end
section
variable {h h1 : IH} {env : Ev} {g : MG} {mb : MS} {ms : MA} {c : Ct}
/-- for i in range(n) -/
theorem sp_forR (ss : List Nat) (n : Nat) (I : Nat → List (Option D) → IH → Prop) {vs : List (Option D)} (e : ms env h = .ok [iD n] h1) (hn : n ≤ 1000000000) (e0 : setsE env ss vs = env) (i0 : I 0 vs h1)
    (step : ∀ i vs H, i < n → I i vs H → ∃ e1, g (iD i) (setsE env ss vs) = some e1 ∧ sp (mb e1 H) (Turn env ss c (I (i + 1))))
    (fin : ∀ vs H, I n vs H → c.nx (setsE env ss vs) H) : sp (Z.forM (rngI1 ms) g mb env h) c := by
  refine sp_for ss (List.range n) iD I (rng_n e hn) e0 i0 (fun i x vs H hx q => ?_) (fun vs H q => fin vs H (by rwa [List.length_range] at q))
  obtain ⟨rfl, hi⟩ := range_at hx
  exact step i vs H hi q
theorem zipIdx_at {α : Type} {xs : List α} {i : Nat} {q : α × Nat} (h : xs.zipIdx[i]? = some q) : q.2 = i ∧ xs[i]? = some q.1 := by
  rw [List.getElem?_zipIdx] at h
  cases e : xs[i]? with
  | none => rw [e] at h; cases h
  | some y =>
    rw [e] at h
    cases h
    exact ⟨by simp, rfl⟩
/-- for i, x in enumerate(tuple) -/
theorem sp_forE {α : Type} (ss : List Nat) (xs : List α) (f : α → D) (I : Nat → List (Option D) → IH → Prop) {ma : ME} {vs : List (Option D)} (e : ma env h = .ok (.tup (xs.map f)) h) (e0 : setsE env ss vs = env) (i0 : I 0 vs h)
    (step : ∀ i x vs H, xs[i]? = some x → I i vs H → ∃ e1, g (.tup [iD i, f x]) (setsE env ss vs) = some e1 ∧ sp (mb e1 H) (Turn env ss c (I (i + 1))))
    (fin : ∀ vs H, I xs.length vs H → c.nx (setsE env ss vs) H) : sp (Z.forM (enumI (oneM (aconsM ma anilM))) g mb env h) c := by
  have en := enumI_tup e
  rw [enD_zip] at en
  refine sp_for ss xs.zipIdx (fun q => .tup [iD q.2, f q.1]) I en e0 i0 (fun i q vs H hx w => ?_) (fun vs H q => fin vs H (by rwa [List.length_zipIdx] at q))
  obtain ⟨q1, q2⟩ := zipIdx_at hx
  show ∃ e1, g (.tup [iD q.2, f q.1]) _ = _ ∧ _
  rw [q1]
  exact step i q.1 vs H q2 w
end
/-- a draw -/
theorem ev_dn {n : Nat} {h : IH} {k : Nat} (w : St n h) (hn : n + 1 ≤ NM) (h0 : 0 < k := by decide) (hb : k < 2 ^ 20 := by decide) :
    ∃ (d : Nat) (h' : IH), F__law_next [.ref 1, iD k] h = .ok (iD d) h' ∧ d < k ∧ Gw (n + 1) h h' ∧ h'.length = h.length := by
  unfold NM at hn
  exact ev_draw w (by omega) h0 hb
end Zc
/-! W2: fields, methods, stores, makes. -/
namespace Zc
open PySem L2 Z Q
section
variable {h : IH} {env : Ev} {ma mo : ME} {ms : MA} {c : Str} {m f : Str} {F : MF} {fok : Str → Str → Bool} {d v : D} {n : Nat} {fs : List (Str × D)}
def fldV (fok : Str → Str → Bool) (f : Str) (h : IH) (d : D) : R D := match insAt h d with
  | some (_, c, fs) => if fok c f = true then (match fs.lookup f with
    | some v => .ok v h
    | none => .stuck) else .stuck
  | none => .stuck
theorem fldM_eq : fldM fok f ma env h = (ma env h).bindG .exc .stuck fun d h => fldV fok f h d := rfl
theorem fldV_of (w : h[n]? = some (.ins c fs)) (k : fok c f = true) (l : fs.lookup f = some v) : fldV fok f h (.ref n) = .ok v h := by
  unfold fldV
  rw [insAt_ref w]
  dsimp only
  rw [if_pos k, l]
/-- an instance of c without an attribute m of its own -/
def isIn (c m : Str) (h : IH) (d : D) : Bool := match insAt h d with
  | some (_, c', fs) => decide (c' = c ∧ fs.lookup m = none)
  | none => false
theorem omM_eq : omM c m F mo ms env h = (mo env h).bindG .exc .stuck fun d h => if isIn c m h d = true then (ms env h).bindG .exc .stuck fun ds h => F (d :: ds) h else .stuck := by
  unfold omM
  congr 1
  funext d h
  unfold isIn
  cases insAt h d with
  | none => rfl
  | some q =>
    obtain ⟨a, b, e⟩ := q
    dsimp only
    by_cases z : b = c ∧ e.lookup m = none
    · rw [if_pos z, if_pos (decide_eq_true z)]
    · rw [if_neg z, if_neg (by rw [decide_eq_false z]; decide)]
theorem isIn_of (w : h[n]? = some (.ins c fs)) (l : fs.lookup m = none) : isIn c m h (.ref n) = true := by
  unfold isIn
  rw [insAt_ref w]
  exact decide_eq_true ⟨rfl, l⟩
variable {Q : D → IH → Prop} {X : Exc → IH → Prop} {ct : Ct}
theorem rp_om (H : rp (mo env h) (fun d h => isIn c m h d = true ∧ rp (ms env h) (fun ds h => rp (F (d :: ds) h) Q X) X) X) : rp (omM c m F mo ms env h) Q X := by
  rw [omM_eq]
  refine rp_bind (rp_mono H (fun a g q => ?_) fun _ _ q => q)
  rw [if_pos q.1]
  exact rp_bind q.2
theorem sp_ost (H : rp (ma env h) (fun d h => rp (mo env h) (fun x h => ∃ n c fs, x = .ref n ∧ h[n]? = some (.ins c fs) ∧ fok c f = true ∧ fs.length < 1000 ∧ ∀ h', Up n h h' → h'[n]? = some (.ins c (putD f d fs)) → ct.nx env h') fun x h => ct.xc x env h) fun x h => ct.xc x env h) : sp (ostM fok f mo ma env h) ct := by
  unfold ostM
  refine rp_thenS (rp_mono H (fun d g q => rp_thenS (rp_mono q (fun x k q => ?_) fun _ _ q => q)) fun _ _ q => q)
  obtain ⟨n, c, fs, rfl, w, k1, l, q⟩ := q
  rw [insAt_ref w]
  dsimp only
  rw [if_pos ⟨k1, l⟩]
  exact sp_nxI.mpr (q _ .set (List.getElem?_set_self (List.getElem?_eq_some_iff.mp w).1))
theorem rp_mk (H : rp (ms env h) (fun ds h => ∀ h1, Ap h h1 → h1.length = h.length + 1 → h1[h.length]? = some (.ins c []) → rp (F (.ref h.length :: ds) h1) (fun v h2 => v = .non ∧ Q (.ref h.length) h2) X) X) : rp (mkM c F ms env h) Q X := by
  unfold mkM
  refine rp_bind (rp_mono H (fun ds g q => ?_) fun _ _ q => q)
  refine rp_bind (rp_mono (q (g ++ [.ins c []]) .app (by simp) List.getElem?_concat_length) (fun v g2 q => ?_) fun _ _ q => q)
  obtain ⟨rfl, q⟩ := q
  exact rp_ok q
end
section
variable {h : IH}
@[simp] theorem inDC_exit : inM false (.str "exit") (.tup [.str "draw", .str "choose"]) h = .ok (.bl false) h := by rfl
@[simp] theorem inDC_draw : inM false (.str "draw") (.tup [.str "draw", .str "choose"]) h = .ok (.bl true) h := by rfl
@[simp] theorem inDC_choose : inM false (.str "choose") (.tup [.str "draw", .str "choose"]) h = .ok (.bl true) h := by rfl
@[simp] theorem inDC_call : inM false (.str "call") (.tup [.str "draw", .str "choose"]) h = .ok (.bl false) h := by rfl
@[simp] theorem inDC_reward : inM false (.str "reward") (.tup [.str "draw", .str "choose"]) h = .ok (.bl false) h := by rfl
@[simp] theorem inDC_reject : inM false (.str "reject") (.tup [.str "draw", .str "choose"]) h = .ok (.bl false) h := by rfl
@[simp] theorem inDC_stop : inM false (.str "stop") (.tup [.str "draw", .str "choose"]) h = .ok (.bl false) h := by rfl
@[simp] theorem inFRS_finished : inM false (.str "finished") (.tup [.str "finished", .str "rejected", .str "stopped"]) h = .ok (.bl true) h := by rfl
@[simp] theorem ws_finished_finished : eqM (.str "finished") (.str "finished") h = .ok (.bl true) h := by rw [str_eq]; rfl
@[simp] theorem ws_finished_rejected : eqM (.str "finished") (.str "rejected") h = .ok (.bl false) h := by rw [str_eq]; rfl
@[simp] theorem ws_finished_stopped : eqM (.str "finished") (.str "stopped") h = .ok (.bl false) h := by rw [str_eq]; rfl
@[simp] theorem ws_finished_waiting : eqM (.str "finished") (.str "waiting") h = .ok (.bl false) h := by rw [str_eq]; rfl
@[simp] theorem ws_finished_running : eqM (.str "finished") (.str "running") h = .ok (.bl false) h := by rw [str_eq]; rfl
@[simp] theorem inFRS_rejected : inM false (.str "rejected") (.tup [.str "finished", .str "rejected", .str "stopped"]) h = .ok (.bl true) h := by rfl
@[simp] theorem ws_rejected_finished : eqM (.str "rejected") (.str "finished") h = .ok (.bl false) h := by rw [str_eq]; rfl
@[simp] theorem ws_rejected_rejected : eqM (.str "rejected") (.str "rejected") h = .ok (.bl true) h := by rw [str_eq]; rfl
@[simp] theorem ws_rejected_stopped : eqM (.str "rejected") (.str "stopped") h = .ok (.bl false) h := by rw [str_eq]; rfl
@[simp] theorem ws_rejected_waiting : eqM (.str "rejected") (.str "waiting") h = .ok (.bl false) h := by rw [str_eq]; rfl
@[simp] theorem ws_rejected_running : eqM (.str "rejected") (.str "running") h = .ok (.bl false) h := by rw [str_eq]; rfl
@[simp] theorem inFRS_stopped : inM false (.str "stopped") (.tup [.str "finished", .str "rejected", .str "stopped"]) h = .ok (.bl true) h := by rfl
@[simp] theorem ws_stopped_finished : eqM (.str "stopped") (.str "finished") h = .ok (.bl false) h := by rw [str_eq]; rfl
@[simp] theorem ws_stopped_rejected : eqM (.str "stopped") (.str "rejected") h = .ok (.bl false) h := by rw [str_eq]; rfl
@[simp] theorem ws_stopped_stopped : eqM (.str "stopped") (.str "stopped") h = .ok (.bl true) h := by rw [str_eq]; rfl
@[simp] theorem ws_stopped_waiting : eqM (.str "stopped") (.str "waiting") h = .ok (.bl false) h := by rw [str_eq]; rfl
@[simp] theorem ws_stopped_running : eqM (.str "stopped") (.str "running") h = .ok (.bl false) h := by rw [str_eq]; rfl
@[simp] theorem inFRS_waiting : inM false (.str "waiting") (.tup [.str "finished", .str "rejected", .str "stopped"]) h = .ok (.bl false) h := by rfl
@[simp] theorem ws_waiting_finished : eqM (.str "waiting") (.str "finished") h = .ok (.bl false) h := by rw [str_eq]; rfl
@[simp] theorem ws_waiting_rejected : eqM (.str "waiting") (.str "rejected") h = .ok (.bl false) h := by rw [str_eq]; rfl
@[simp] theorem ws_waiting_stopped : eqM (.str "waiting") (.str "stopped") h = .ok (.bl false) h := by rw [str_eq]; rfl
@[simp] theorem ws_waiting_waiting : eqM (.str "waiting") (.str "waiting") h = .ok (.bl true) h := by rw [str_eq]; rfl
@[simp] theorem ws_waiting_running : eqM (.str "waiting") (.str "running") h = .ok (.bl false) h := by rw [str_eq]; rfl
@[simp] theorem inFRS_running : inM false (.str "running") (.tup [.str "finished", .str "rejected", .str "stopped"]) h = .ok (.bl false) h := by rfl
@[simp] theorem ws_running_finished : eqM (.str "running") (.str "finished") h = .ok (.bl false) h := by rw [str_eq]; rfl
@[simp] theorem ws_running_rejected : eqM (.str "running") (.str "rejected") h = .ok (.bl false) h := by rw [str_eq]; rfl
@[simp] theorem ws_running_stopped : eqM (.str "running") (.str "stopped") h = .ok (.bl false) h := by rw [str_eq]; rfl
@[simp] theorem ws_running_waiting : eqM (.str "running") (.str "waiting") h = .ok (.bl false) h := by rw [str_eq]; rfl
@[simp] theorem ws_running_running : eqM (.str "running") (.str "running") h = .ok (.bl true) h := by rw [str_eq]; rfl
end
/-- two objects moved -/
structure Mv (r k : Nat) (h h' : IH) : Prop where
  len : h'.length = h.length
  keep : ∀ i, i ≠ r → i ≠ k → h'[i]? = h[i]?
theorem Mv.refl {r k : Nat} {h : IH} : Mv r k h h := ⟨rfl, fun _ _ _ => rfl⟩
theorem Mv.trans {r k : Nat} {h h' h'' : IH} (a : Mv r k h h') (b : Mv r k h' h'') : Mv r k h h'' := ⟨b.len.trans a.len, fun i h1 h2 => (b.keep i h1 h2).trans (a.keep i h1 h2)⟩
theorem Mv.ap {r k : Nat} {h0 h h' : IH} (w : Mv r k h h') (a : Ap h0 h) (c : h0.length ≤ r) (c2 : h0.length ≤ k) : Ap h0 h' := ⟨by rw [w.len]; exact a.len, fun i hi => (w.keep i (by omega) (by omega)).trans (a.keep i hi)⟩
theorem putD_lt {f : Str} {d : D} {k : Nat} : ∀ {fs : List (Str × D)}, fs.length < k → (putD f d fs).length < k + 1
  | [], h => by simp [putD]; omega
  | (g, x) :: r, h => by
    unfold putD
    split
    · simp only [List.length_cons] at h ⊢; omega
    · rw [List.length_cons] at h ⊢
      have := putD_lt (f := f) (d := d) (k := k - 1) (fs := r) (by omega)
      omega
theorem bls_map {α : Type} (b : α → Bool) : ∀ xs : List α, bls (xs.map fun a => D.bl (b a)) = some (xs.map b)
  | [] => rfl
  | x :: xs => by simp [bls, bls_map b xs]
theorem allF_at' {α : Type} {h : IH} {k : Nat} {xs : List α} (b : α → Bool) (e : h[k]? = some (.lst (xs.map fun a => D.bl (b a)))) : allF [.ref k] h = .ok (.bl (xs.all b)) h := by
  simp only [allF, lisOf_ref e, Option.bind_some, bls_map, List.all_map, Function.comp_def, id]
theorem allF_true {α : Type} {h : IH} {k : Nat} {xs : List α} (e : h[k]? = some (.lst (xs.map fun _ => D.bl true))) : allF [.ref k] h = .ok (.bl true) h := by
  rw [allF_at' (fun _ => true) e]
  simp
theorem sp_asgL {n : Nat} {gs : MGs} {ma : ME} {env : Ev} {h : IH} {c : Ct} (H : rp (ma env h) (fun d h => ∃ ds e, lisOf h d = some ds ∧ ds.length = n ∧ gs ds env = some e ∧ c.nx e h) fun x h => c.xc x env h) : sp (asgLM n gs ma env h) c := by
  unfold asgLM
  refine rp_thenS (rp_mono H (fun d k q => ?_) fun _ _ q => q)
  obtain ⟨ds, e, h1, h2, h3, q⟩ := q
  rw [h1]
  dsimp only
  rw [if_pos h2, h3]
  exact sp_nxI.mpr q
end Zc
/-! W3: range of two, list of a list. -/
namespace Zc
open PySem L2 Z Q
section
variable {h h1 : IH} {env : Ev} {ms : MA} {k : Nat}
theorem rng_2 {a b : Nat} (e : ms env h = .ok [iD a, iD b] h1) (ha : a ≤ 1000000000) (hb : b ≤ 1000000000) : rngI2 ms env h = .ok (.snap ((List.range (b - a)).map fun t => iD (a + t))) h1 := by
  have r1 : Rng (a : Int) := rng_of (by omega) (by omega)
  have r2 : Rng (b : Int) := rng_of (by omega) (by omega)
  rw [rngI2_eq, e]
  simp only [R.bindG_ok, iD]
  rw [if_pos ⟨r1, r2⟩, show ((b : Int) - (a : Int)).toNat = b - a by omega]
  unfold rngD
  simp only [Int.natCast_add]
theorem rp_listF {xs : List D} {Q : D → IH → Prop} {X : Exc → IH → Prop} (q : h[k]? = some (.lst xs)) (H : New h xs Q) : rp (listF [.ref k] h) Q X := by
  have e : listF [.ref k] h = newL h xs := by unfold listF; simp only [q]
  rw [e]
  exact rp_newL H
theorem eq_nat {a b : Nat} : eqM (iD a) (iD b) h = .ok (.bl (decide (a = b))) h := by
  unfold iD
  rw [eqM_int]
  congr 2
  rw [Bool.eq_iff_iff, decide_eq_true_eq, decide_eq_true_eq]
  omega
theorem lt_nat {a b : Nat} : ltM (iD a) (iD b) h = .ok (.bl (decide (a < b))) h := by
  unfold iD; rw [ltM_int]; congr 2; rw [Bool.eq_iff_iff, decide_eq_true_eq, decide_eq_true_eq]; omega
theorem le_nat {a b : Nat} : leM (iD a) (iD b) h = .ok (.bl (decide (a ≤ b))) h := by
  unfold iD; rw [leM_int]; congr 2; rw [Bool.eq_iff_iff, decide_eq_true_eq, decide_eq_true_eq]; omega
theorem gt_nat {a b : Nat} : gtM (iD a) (iD b) h = .ok (.bl (decide (b < a))) h := by
  unfold iD; rw [gtM_int]; congr 2; rw [Bool.eq_iff_iff, decide_eq_true_eq, decide_eq_true_eq]; omega
/-! ### try with several clauses -/
end
end Zc
/-! W4: comprehensions of two clauses over lists. -/
namespace Zc
open PySem L2 Z Q
section
variable {α : Type} {h h1 : IH} {env : Ev} {mi mi1 : MI} {own own1 : List Nat} {g g1 : MG} {me : ME} {Q : D → IH → Prop} {X : Exc → IH → Prop} {kx : Nat}
end
end Zc
/-! G20A: grammars as data, and drawn. -/
namespace Zc
open PySem L2 Z Q
inductive Sy where
  | v (k : Nat) | l (c : Nat)
def dSy : Sy → D
  | .v k => iD k
  | .l c => .str ⟨#[c]⟩
abbrev Ru := Rat × List Sy
def dRu (r : Ru) : D := .tup [dr r.1, .tup (r.2.map dSy)]
def nS (rs : List Ru) : Nat := (rs.map fun r => r.2.length).sum
def sumQ (rs : List Ru) : Rat := (rs.map (·.1)).foldl (fun t x => t + x) 0
def dRs (rs : List Ru) : D := .tup (rs.map dRu)
abbrev Gm := List (List Ru)
def dGm (gm : Gm) : D := .tup (gm.map dRs)
def OkSy (many : Nat) : Sy → Prop
  | .v k => k < many
  | .l c => 97 ≤ c ∧ c ≤ 122
/-- a chance -/
def OkC (x : Rat) : Prop := 0 < x.num ∧ x.num ≤ 60 ∧ x.den ≤ 60
structure RuOk (many : Nat) (r : Ru) : Prop where
  ch : OkC r.1
  s4 : r.2.length ≤ 4
  sy : ∀ s ∈ r.2, OkSy many s
structure OkRs (many : Nat) (rs : List Ru) : Prop where
  l1 : 1 ≤ rs.length
  l4 : rs.length ≤ 4
  ru : ∀ r ∈ rs, RuOk many r
  sum : sumQ rs = 1
  n14 : nS rs ≤ 14
structure OkGm (gm : Gm) : Prop where
  l1 : 1 ≤ gm.length
  l6 : gm.length ≤ 6
  rs : ∀ rs ∈ gm, OkRs gm.length rs
  r12 : (gm.map fun rs => rs.length).sum ≤ 12
  p40 : 2 * gm.length + (gm.map nS).sum ≤ 40
section
variable {h : IH} {X : Cx}
theorem okV_dSy {s : Sy} : okV h (dSy s) = .ok (dSy s) h := by cases s <;> rfl
theorem okV_dRu {r : Ru} : okV h (dRu r) = .ok (dRu r) h := rfl
theorem okV_dRs {r : List Ru} : okV h (dRs r) = .ok (dRs r) h := rfl
theorem okV_dGm {r : Gm} : okV h (dGm r) = .ok (dGm r) h := rfl
theorem one_add {k : Nat} : addM (.int 1) (iD k) h = .ok (iD (k + 1)) h := by
  show R.ok (D.int (1 + (k : Int))) h = .ok (D.int ((k + 1 : Nat) : Int)) h
  rw [Int.add_comm]
  rfl
def wR (w : Nat) : Rat := Rat.divInt (w : Int) 60
theorem sum_wR : ∀ (ws : List Nat) (t : Rat), (ws.map wR).foldl (fun t x => t + x) t = t + ((ws.sum : Nat) : Rat) / 60
  | [], t => by simp; grind
  | w :: ws, t => by
    rw [List.map_cons, List.foldl_cons, sum_wR ws]
    unfold wR
    rw [Rat.divInt_eq_div, List.sum_cons]
    push_cast
    grind
end
end Zc
/-! G20B: grammars checked. -/
namespace Zc
open PySem L2 Z Q
def isL : Sy → Bool
  | .v _ => false
  | .l _ => true
theorem letters : ∀ c : Fin 123, 97 ≤ c.val → decide (c.val ∈ ("abcdefghijklmnopqrstuvwxyz" : Str).cps.toList) = true := by decide +kernel
theorem OkC.rb {x : Rat} (o : OkC x) : RB 7 x := by
  obtain ⟨h1, h2, h3⟩ := o
  have hd := x.den_pos
  exact ⟨by unfold Bit; omega, by unfold Bit; omega⟩
section
variable {h : IH} {Q : D → IH → Prop} {X : Exc → IH → Prop}
theorem ev_is_letter {many : Nat} {s : Sy} (o : OkSy many s) : F_is_letter [dSy s] h = .ok (.bl (isL s)) h := by
  cases s with
  | v k =>
    have e : ∀ H : IH, isiM "str" (constM (iD k)) [] H = .ok (.bl false) H := fun H => by simp [iD]
    refine rp_to' ?_
    unfold F_is_letter M_is_letter
    refine rp_def ?_
    simp only [setsE_cons, setsE_nil, List.set_cons_zero, List.set_cons_succ, List.map_cons, List.map_nil, List.length_cons, List.length_nil, List.cons_append, List.nil_append, List.append_nil, List.replicate_succ, List.replicate_zero, Nat.zero_add, Nat.reduceAdd, Nat.reduceSub, wipeE_nil, wipeE_cons, ↓reduceIte, Bool.false_eq_true, Bool.not_true, Bool.not_false]
    (first | refine sp_seq ?_ | refine sp_set ?_ | refine sp_if ?_ | refine sp_ret ?_ | refine sp_expr ?_ | refine sp_asg ?_ | refine sp_next ?_ | refine sp_brk ?_ | refine sp_cont ?_ | refine sp_raise ?_ | refine sp_put ?_ | refine sp_retN ?_ | refine sp_par ?_ | refine sp_asgL ?_)
    try dsimp only
    refine rp_and ?_
    conv => (arg 1; simp [okV_iD, okV_dr, okV_dPt, okV_dP, okV_dG, okV_dC, okV_dB, ix_wd, iD_def, tyN, dSy])
    refine rp_ok ?_
    try dsimp only
    try simp only [setsE_cons, setsE_nil, List.set_cons_zero, List.set_cons_succ, List.map_cons, List.map_nil, List.length_cons, List.length_nil, List.cons_append, List.nil_append, List.append_nil, List.replicate_succ, List.replicate_zero, Nat.zero_add, Nat.reduceAdd, Nat.reduceSub, wipeE_nil, wipeE_cons, ↓reduceIte, Bool.false_eq_true, Bool.not_true, Bool.not_false]
    refine ⟨_, rfl, ?_⟩
    exact tq_same ⟨rfl, rfl⟩
  | l c =>
    have l1 : ∀ H : IH, lenF [.str ⟨#[c]⟩] H = .ok (.int 1) H := fun H => rfl
    have m : decide (c ∈ ("abcdefghijklmnopqrstuvwxyz" : Str).cps.toList) = true := letters ⟨c, by have := o.2; omega⟩ o.1
    have i1 : ∀ H : IH, inSM (.str ⟨#[c]⟩) (.str "abcdefghijklmnopqrstuvwxyz") H = .ok (.bl true) H := fun H => by
      show R.ok (D.bl (decide (c ∈ ("abcdefghijklmnopqrstuvwxyz" : Str).cps.toList))) H = _
      rw [m]
    have q1 : ∀ H : IH, eqM (.int 1) (.int 1) H = .ok (.bl true) H := fun H => eqM_same rfl
    refine rp_to' ?_
    unfold F_is_letter M_is_letter
    refine rp_def ?_
    simp only [setsE_cons, setsE_nil, List.set_cons_zero, List.set_cons_succ, List.map_cons, List.map_nil, List.length_cons, List.length_nil, List.cons_append, List.nil_append, List.append_nil, List.replicate_succ, List.replicate_zero, Nat.zero_add, Nat.reduceAdd, Nat.reduceSub, wipeE_nil, wipeE_cons, ↓reduceIte, Bool.false_eq_true, Bool.not_true, Bool.not_false]
    (first | refine sp_seq ?_ | refine sp_set ?_ | refine sp_if ?_ | refine sp_ret ?_ | refine sp_expr ?_ | refine sp_asg ?_ | refine sp_next ?_ | refine sp_brk ?_ | refine sp_cont ?_ | refine sp_raise ?_ | refine sp_put ?_ | refine sp_retN ?_ | refine sp_par ?_ | refine sp_asgL ?_)
    try dsimp only
    refine rp_and ?_
    conv => (arg 1; simp [okV_iD, okV_dr, okV_dPt, okV_dP, okV_dG, okV_dC, okV_dB, ix_wd, iD_def, tyN, dSy])
    refine rp_ok ?_
    try dsimp only
    try simp only [setsE_cons, setsE_nil, List.set_cons_zero, List.set_cons_succ, List.map_cons, List.map_nil, List.length_cons, List.length_nil, List.cons_append, List.nil_append, List.append_nil, List.replicate_succ, List.replicate_zero, Nat.zero_add, Nat.reduceAdd, Nat.reduceSub, wipeE_nil, wipeE_cons, ↓reduceIte, Bool.false_eq_true, Bool.not_true, Bool.not_false]
    refine ⟨_, rfl, ?_⟩
    refine rp_and ?_
    conv => (arg 1; simp [okV_iD, okV_dr, okV_dPt, okV_dP, okV_dG, okV_dC, okV_dB, ix_wd, iD_def, l1, q1])
    refine rp_ok ?_
    try dsimp only
    try simp only [setsE_cons, setsE_nil, List.set_cons_zero, List.set_cons_succ, List.map_cons, List.map_nil, List.length_cons, List.length_nil, List.cons_append, List.nil_append, List.append_nil, List.replicate_succ, List.replicate_zero, Nat.zero_add, Nat.reduceAdd, Nat.reduceSub, wipeE_nil, wipeE_cons, ↓reduceIte, Bool.false_eq_true, Bool.not_true, Bool.not_false]
    refine ⟨_, rfl, ?_⟩
    conv => (arg 1; simp [okV_iD, okV_dr, okV_dPt, okV_dP, okV_dG, okV_dC, okV_dB, ix_wd, iD_def, i1])
    refine rp_ok ?_
    try dsimp only
    try simp only [setsE_cons, setsE_nil, List.set_cons_zero, List.set_cons_succ, List.map_cons, List.map_nil, List.length_cons, List.length_nil, List.cons_append, List.nil_append, List.append_nil, List.replicate_succ, List.replicate_zero, Nat.zero_add, Nat.reduceAdd, Nat.reduceSub, wipeE_nil, wipeE_cons, ↓reduceIte, Bool.false_eq_true, Bool.not_true, Bool.not_false]
    exact tq_same ⟨by first | rfl | exact congrArg D.bl m, rfl⟩
theorem ev_is_rule {many : Nat} {r : Ru} (o : RuOk many r) : F_is_rule [dRu r, iD many] h = .ok (.bl true) h := by
  have c := o.ch
  have l := o.s4
  have sy := o.sy
  have ch : ∀ H : IH, F_is_chance [dr r.1] H = .ok (.bl true) H := fun H => by
    rw [ev_is_chance]
    simp [c.1, c.2.2]
  have o6 : ∀ K : IH, okV K (dr r.1) = .ok (dr r.1) K := fun _ => rfl
  have i0 : ∀ H : IH, ixM (dRu r) (.int 0) H = .ok (dr r.1) H := fun _ => rfl
  have i1 : ∀ H : IH, ixM (dRu r) (.int 1) H = .ok (.tup (r.2.map dSy)) H := fun _ => rfl
  have l2 : ∀ H : IH, lenF [dRu r] H = .ok (.int 2) H := fun _ => rfl
  have n2 : ∀ H : IH, neM (.int 2) (.int 2) H = .ok (.bl false) H := fun _ => neM_same rfl
  have ty : ∀ H : IH, tyN H (dRu r) = some "tuple" := fun _ => rfl
  have ty2 : ∀ H : IH, tyN H (.tup (r.2.map dSy)) = some "tuple" := fun _ => rfl
  have ls : ∀ H : IH, lenF [.tup (r.2.map dSy)] H = .ok (iD r.2.length) H := fun _ => by
    rw [lenF_tup, List.length_map]; rfl
  have gt : ∀ H : IH, gtM (iD r.2.length) (.int 4) H = .ok (.bl false) H := fun H => by
    have := gt_nat (a := r.2.length) (b := 4) (h := H)
    rw [show (decide (r.2.length > 4)) = false from by simp; omega] at this
    exact this
  refine rp_to' ?_
  unfold F_is_rule M_is_rule
  refine rp_def ?_
  simp only [setsE_cons, setsE_nil, List.set_cons_zero, List.set_cons_succ, List.map_cons, List.map_nil, List.length_cons, List.length_nil, List.cons_append, List.nil_append, List.append_nil, List.replicate_succ, List.replicate_zero, Nat.zero_add, Nat.reduceAdd, Nat.reduceSub, wipeE_nil, wipeE_cons, ↓reduceIte, Bool.false_eq_true, Bool.not_true, Bool.not_false]
  (first | refine sp_seq ?_ | refine sp_set ?_ | refine sp_if ?_ | refine sp_ret ?_ | refine sp_expr ?_ | refine sp_asg ?_ | refine sp_next ?_ | refine sp_brk ?_ | refine sp_cont ?_ | refine sp_raise ?_ | refine sp_put ?_ | refine sp_retN ?_ | refine sp_par ?_ | refine sp_asgL ?_)
  try dsimp only
  (first | refine sp_seq ?_ | refine sp_set ?_ | refine sp_if ?_ | refine sp_ret ?_ | refine sp_expr ?_ | refine sp_asg ?_ | refine sp_next ?_ | refine sp_brk ?_ | refine sp_cont ?_ | refine sp_raise ?_ | refine sp_put ?_ | refine sp_retN ?_ | refine sp_par ?_ | refine sp_asgL ?_)
  try dsimp only
  conv => (arg 1; simp [okV_iD, okV_dr, okV_dPt, okV_dP, okV_dG, okV_dC, okV_dB, ix_wd, iD_def, okV_dRu, ty, l2, n2, i0, ch, o6])
  refine rp_ok ?_
  try dsimp only
  try simp only [setsE_cons, setsE_nil, List.set_cons_zero, List.set_cons_succ, List.map_cons, List.map_nil, List.length_cons, List.length_nil, List.cons_append, List.nil_append, List.append_nil, List.replicate_succ, List.replicate_zero, Nat.zero_add, Nat.reduceAdd, Nat.reduceSub, wipeE_nil, wipeE_cons, ↓reduceIte, Bool.false_eq_true, Bool.not_true, Bool.not_false]
  (first | refine sp_seq ?_ | refine sp_set ?_ | refine sp_if ?_ | refine sp_ret ?_ | refine sp_expr ?_ | refine sp_asg ?_ | refine sp_next ?_ | refine sp_brk ?_ | refine sp_cont ?_ | refine sp_raise ?_ | refine sp_put ?_ | refine sp_retN ?_ | refine sp_par ?_ | refine sp_asgL ?_)
  try dsimp only
  (first | refine sp_seq ?_ | refine sp_set ?_ | refine sp_if ?_ | refine sp_ret ?_ | refine sp_expr ?_ | refine sp_asg ?_ | refine sp_next ?_ | refine sp_brk ?_ | refine sp_cont ?_ | refine sp_raise ?_ | refine sp_put ?_ | refine sp_retN ?_ | refine sp_par ?_ | refine sp_asgL ?_)
  try dsimp only
  (first | refine sp_seq ?_ | refine sp_set ?_ | refine sp_if ?_ | refine sp_ret ?_ | refine sp_expr ?_ | refine sp_asg ?_ | refine sp_next ?_ | refine sp_brk ?_ | refine sp_cont ?_ | refine sp_raise ?_ | refine sp_put ?_ | refine sp_retN ?_ | refine sp_par ?_ | refine sp_asgL ?_)
  try dsimp only
  conv => (arg 1; simp [okV_iD, okV_dr, okV_dPt, okV_dP, okV_dG, okV_dC, okV_dB, ix_wd, iD_def, okV_dRu, i1, ty2, -lenF_tup, ls, gt])
  refine rp_ok ?_
  try dsimp only
  try simp only [setsE_cons, setsE_nil, List.set_cons_zero, List.set_cons_succ, List.map_cons, List.map_nil, List.length_cons, List.length_nil, List.cons_append, List.nil_append, List.append_nil, List.replicate_succ, List.replicate_zero, Nat.zero_add, Nat.reduceAdd, Nat.reduceSub, wipeE_nil, wipeE_cons, ↓reduceIte, Bool.false_eq_true, Bool.not_true, Bool.not_false]
  (first | refine sp_seq ?_ | refine sp_set ?_ | refine sp_if ?_ | refine sp_ret ?_ | refine sp_expr ?_ | refine sp_asg ?_ | refine sp_next ?_ | refine sp_brk ?_ | refine sp_cont ?_ | refine sp_raise ?_ | refine sp_put ?_ | refine sp_retN ?_ | refine sp_par ?_ | refine sp_asgL ?_)
  try dsimp only
  (first | refine sp_seq ?_ | refine sp_set ?_ | refine sp_if ?_ | refine sp_ret ?_ | refine sp_expr ?_ | refine sp_asg ?_ | refine sp_next ?_ | refine sp_brk ?_ | refine sp_cont ?_ | refine sp_raise ?_ | refine sp_put ?_ | refine sp_retN ?_ | refine sp_par ?_ | refine sp_asgL ?_)
  try dsimp only
  refine rp_call (rp_acons ?_)
  refine rp_lc (h1 := h) r.2 dSy (fun _ => .bl true) (by simp [okV_dRu, i1]) (by omega) (fun s hs => ⟨_, rfl, ?_⟩) ?_
  · have o := sy s hs
    refine rp_or ?_
    conv => (arg 1; simp [okV_iD, okV_dr, okV_dPt, okV_dP, okV_dG, okV_dC, okV_dB, ix_wd, iD_def, wipeE_cons, wipeE_nil, okV_dSy, ev_is_letter o])
    refine rp_ok ?_
    try dsimp only
    try simp only [setsE_cons, setsE_nil, List.set_cons_zero, List.set_cons_succ, List.map_cons, List.map_nil, List.length_cons, List.length_nil, List.cons_append, List.nil_append, List.append_nil, List.replicate_succ, List.replicate_zero, Nat.zero_add, Nat.reduceAdd, Nat.reduceSub, wipeE_nil, wipeE_cons, ↓reduceIte, Bool.false_eq_true, Bool.not_true, Bool.not_false]
    cases s with
    | v k =>
      refine ⟨_, rfl, ?_⟩
      rw [if_neg (show ¬ isL (Sy.v k) = true from fun z => by cases z)]
      have o : k < many := o
      have ix : ∀ H : IH, F_is_index [dSy (.v k), iD many] H = .ok (.bl true) H := fun H => by
        show F_is_index [iD k, iD many] H = _
        rw [ev_is_index]
        simp [o]
      conv => (arg 1; simp [okV_iD, okV_dr, okV_dPt, okV_dP, okV_dG, okV_dC, okV_dB, ix_wd, iD_def, isL, wipeE_cons, wipeE_nil, okV_dSy, ix])
      refine rp_ok ?_
      try dsimp only
      try simp only [setsE_cons, setsE_nil, List.set_cons_zero, List.set_cons_succ, List.map_cons, List.map_nil, List.length_cons, List.length_nil, List.cons_append, List.nil_append, List.append_nil, List.replicate_succ, List.replicate_zero, Nat.zero_add, Nat.reduceAdd, Nat.reduceSub, wipeE_nil, wipeE_cons, ↓reduceIte, Bool.false_eq_true, Bool.not_true, Bool.not_false]
      all_goals (first | exact ⟨rfl, rfl⟩ | exact ⟨rfl, trivial⟩ | exact ⟨trivial, rfl⟩ | rfl | trivial)
    | l c =>
      refine ⟨_, rfl, ?_⟩
      simp [isL]
  · intro k h4 A4 q4 l4 _
    refine rp_anil ?_
    refine rp_eq ((allF_at' (fun _ => true) q4)) ?_
    try dsimp only
    try simp only [setsE_cons, setsE_nil, List.set_cons_zero, List.set_cons_succ, List.map_cons, List.map_nil, List.length_cons, List.length_nil, List.cons_append, List.nil_append, List.append_nil, List.replicate_succ, List.replicate_zero, Nat.zero_add, Nat.reduceAdd, Nat.reduceSub, wipeE_nil, wipeE_cons, ↓reduceIte, Bool.false_eq_true, Bool.not_true, Bool.not_false]
    have : (r.2.all fun _ => true) = true := List.all_eq_true.mpr fun _ _ => rfl
    rw [this]
    exact tq_ap A4 rfl ⟨rfl, rfl⟩
/-- the sum of the lengths of the rules -/
theorem ev_lens {rs : List Ru} {env : Ev} {h : IH} {v i j : Nat} (vi : v ≠ i) (ij : i ≠ j) (hl : rs.length ≤ 1000) (li : i < env.length) (lj : j < env.length) (ev : varM v env h = .ok (dRs rs) h) (post : ∀ H, Ap h H → Q (iD (nS rs)) H) :
    rp (callM sumF (aconsM (lcM (seqI (varM v)) [i, j] (gtupM 2 (gconsM (gnameM i) (gconsM (gnameM j) gnilM))) yesM (callM lenF (aconsM (varM j) anilM))) anilM) env h) Q X := by
  refine rp_call (rp_acons ?_)
  refine rp_lc (h1 := h) rs dRu (fun r => iD r.2.length) (by rw [seqI_eq, ev]; simp [dRs]) (by omega) (fun r hr => ⟨((wipeE env [i, j]).set i (some (dr r.1))).set j (some (.tup (r.2.map dSy))), rfl, ?_⟩) ?_
  · have vj : varM j (((wipeE env [i, j]).set i (some (dr r.1))).set j (some (.tup (r.2.map dSy)))) h = .ok (.tup (r.2.map dSy)) h := by
      have : j < ((wipeE env [i, j]).set i (some (dr r.1))).length := by simp [wipeE_cons, wipeE_nil, lj]
      simp [varM_eq, wipeE_cons, wipeE_nil, lj, li]
    refine rp_call (rp_acons (rp_eq vj (rp_anil ?_)))
    refine rp_eq (show lenF [.tup (r.2.map dSy)] h = .ok (iD r.2.length) h from by rw [lenF_tup, List.length_map]; rfl) ⟨rfl, rfl⟩
  · intro k h4 A4 q4 l4 _
    refine rp_anil ?_
    have sf := sumF_at (h := h4) (q := k) (ws := rs.map fun r => r.2.length) (by rw [q4, List.map_map]; rfl)
    exact rp_eq sf (post h4 A4)
theorem len_dRs {rs : List Ru} {H : IH} : lenF [dRs rs] H = .ok (iD rs.length) H := by
  show lenF [.tup (rs.map dRu)] _ = _
  rw [lenF_tup, List.length_map]; rfl
theorem ev_is_rules_gen {many : Nat} {rs : List Ru} (l1 : 1 ≤ rs.length) (l4 : rs.length ≤ 4) (ru : ∀ r ∈ rs, RuOk many r) : F_is_rules [dRs rs, iD many] h = .ok (.bl (decide (sumQ rs = 1) && decide (nS rs ≤ 14))) h := by
  have ty : ∀ H : IH, tyN H (dRs rs) = some "tuple" := fun _ => rfl
  have ln : ∀ H : IH, lenF [dRs rs] H = .ok (iD rs.length) H := fun _ => len_dRs
  have x1 : ∀ H : IH, leM (.int 1) (iD rs.length) H = .ok (.bl true) H := fun H => by
    show leM (iD 1) (iD rs.length) H = _
    rw [le_nat]
    simp [l1]
  have x2 : ∀ H : IH, leM (iD rs.length) (.int 4) H = .ok (.bl true) H := fun H => by
    show leM (iD rs.length) (iD 4) H = _
    rw [le_nat]
    simp [l4]
  refine rp_to' ?_
  unfold F_is_rules M_is_rules
  refine rp_def ?_
  simp only [setsE_cons, setsE_nil, List.set_cons_zero, List.set_cons_succ, List.map_cons, List.map_nil, List.length_cons, List.length_nil, List.cons_append, List.nil_append, List.append_nil, List.replicate_succ, List.replicate_zero, Nat.zero_add, Nat.reduceAdd, Nat.reduceSub, wipeE_nil, wipeE_cons, ↓reduceIte, Bool.false_eq_true, Bool.not_true, Bool.not_false]
  (first | refine sp_seq ?_ | refine sp_set ?_ | refine sp_if ?_ | refine sp_ret ?_ | refine sp_expr ?_ | refine sp_asg ?_ | refine sp_next ?_ | refine sp_brk ?_ | refine sp_cont ?_ | refine sp_raise ?_ | refine sp_put ?_ | refine sp_retN ?_ | refine sp_par ?_ | refine sp_asgL ?_)
  try dsimp only
  (first | refine sp_seq ?_ | refine sp_set ?_ | refine sp_if ?_ | refine sp_ret ?_ | refine sp_expr ?_ | refine sp_asg ?_ | refine sp_next ?_ | refine sp_brk ?_ | refine sp_cont ?_ | refine sp_raise ?_ | refine sp_put ?_ | refine sp_retN ?_ | refine sp_par ?_ | refine sp_asgL ?_)
  try dsimp only
  conv => (arg 1; simp [okV_iD, okV_dr, okV_dPt, okV_dP, okV_dG, okV_dC, okV_dB, ix_wd, iD_def, okV_dRs, ty, ln, x1, x2])
  refine rp_ok ?_
  try dsimp only
  try simp only [setsE_cons, setsE_nil, List.set_cons_zero, List.set_cons_succ, List.map_cons, List.map_nil, List.length_cons, List.length_nil, List.cons_append, List.nil_append, List.append_nil, List.replicate_succ, List.replicate_zero, Nat.zero_add, Nat.reduceAdd, Nat.reduceSub, wipeE_nil, wipeE_cons, ↓reduceIte, Bool.false_eq_true, Bool.not_true, Bool.not_false]
  (first | refine sp_seq ?_ | refine sp_set ?_ | refine sp_if ?_ | refine sp_ret ?_ | refine sp_expr ?_ | refine sp_asg ?_ | refine sp_next ?_ | refine sp_brk ?_ | refine sp_cont ?_ | refine sp_raise ?_ | refine sp_put ?_ | refine sp_retN ?_ | refine sp_par ?_ | refine sp_asgL ?_)
  try dsimp only
  (first | refine sp_seq ?_ | refine sp_set ?_ | refine sp_if ?_ | refine sp_ret ?_ | refine sp_expr ?_ | refine sp_asg ?_ | refine sp_next ?_ | refine sp_brk ?_ | refine sp_cont ?_ | refine sp_raise ?_ | refine sp_put ?_ | refine sp_retN ?_ | refine sp_par ?_ | refine sp_asgL ?_)
  try dsimp only
  (first | refine sp_seq ?_ | refine sp_set ?_ | refine sp_if ?_ | refine sp_ret ?_ | refine sp_expr ?_ | refine sp_asg ?_ | refine sp_next ?_ | refine sp_brk ?_ | refine sp_cont ?_ | refine sp_raise ?_ | refine sp_put ?_ | refine sp_retN ?_ | refine sp_par ?_ | refine sp_asgL ?_)
  try dsimp only
  refine rp_tnot (rp_test (rp_call (rp_acons ?_)))
  refine rp_lc (h1 := h) rs dRu (fun _ => .bl true) (by simp [okV_dRs, dRs]) (by omega) (fun r hr => ⟨_, rfl, ?_⟩) ?_
  · have e := fun H : IH => ev_is_rule (h := H) (many := many) (ru r hr)
    conv => (arg 1; simp [okV_iD, okV_dr, okV_dPt, okV_dP, okV_dG, okV_dC, okV_dB, ix_wd, iD_def, wipeE_cons, wipeE_nil, okV_dRu, e])
    refine rp_ok ?_
    try dsimp only
    try simp only [setsE_cons, setsE_nil, List.set_cons_zero, List.set_cons_succ, List.map_cons, List.map_nil, List.length_cons, List.length_nil, List.cons_append, List.nil_append, List.append_nil, List.replicate_succ, List.replicate_zero, Nat.zero_add, Nat.reduceAdd, Nat.reduceSub, wipeE_nil, wipeE_cons, ↓reduceIte, Bool.false_eq_true, Bool.not_true, Bool.not_false]
    all_goals (first | exact ⟨rfl, rfl⟩ | exact ⟨rfl, trivial⟩ | exact ⟨trivial, rfl⟩ | rfl | trivial)
  intro k h4 A4 q4 _ _
  refine rp_anil ?_
  refine rp_eq ((allF_true q4)) ?_
  try dsimp only
  try simp only [setsE_cons, setsE_nil, List.set_cons_zero, List.set_cons_succ, List.map_cons, List.map_nil, List.length_cons, List.length_nil, List.cons_append, List.nil_append, List.append_nil, List.replicate_succ, List.replicate_zero, Nat.zero_add, Nat.reduceAdd, Nat.reduceSub, wipeE_nil, wipeE_cons, ↓reduceIte, Bool.false_eq_true, Bool.not_true, Bool.not_false]
  refine ⟨_, rfl, ?_⟩
  try dsimp only
  (first | refine sp_seq ?_ | refine sp_set ?_ | refine sp_if ?_ | refine sp_ret ?_ | refine sp_expr ?_ | refine sp_asg ?_ | refine sp_next ?_ | refine sp_brk ?_ | refine sp_cont ?_ | refine sp_raise ?_ | refine sp_put ?_ | refine sp_retN ?_ | refine sp_par ?_ | refine sp_asgL ?_)
  try dsimp only
  (first | refine sp_seq ?_ | refine sp_set ?_ | refine sp_if ?_ | refine sp_ret ?_ | refine sp_expr ?_ | refine sp_asg ?_ | refine sp_next ?_ | refine sp_brk ?_ | refine sp_cont ?_ | refine sp_raise ?_ | refine sp_put ?_ | refine sp_retN ?_ | refine sp_par ?_ | refine sp_asgL ?_)
  try dsimp only
  (first | refine sp_seq ?_ | refine sp_set ?_ | refine sp_if ?_ | refine sp_ret ?_ | refine sp_expr ?_ | refine sp_asg ?_ | refine sp_next ?_ | refine sp_brk ?_ | refine sp_cont ?_ | refine sp_raise ?_ | refine sp_put ?_ | refine sp_retN ?_ | refine sp_par ?_ | refine sp_asgL ?_)
  try dsimp only
  conv => (arg 1; simp [okV_iD, okV_dr, okV_dPt, okV_dP, okV_dG, okV_dC, okV_dB, ix_wd, iD_def])
  refine rp_ok ?_
  try dsimp only
  try simp only [setsE_cons, setsE_nil, List.set_cons_zero, List.set_cons_succ, List.map_cons, List.map_nil, List.length_cons, List.length_nil, List.cons_append, List.nil_append, List.append_nil, List.replicate_succ, List.replicate_zero, Nat.zero_add, Nat.reduceAdd, Nat.reduceSub, wipeE_nil, wipeE_cons, ↓reduceIte, Bool.false_eq_true, Bool.not_true, Bool.not_false]
  (first | refine sp_seq ?_ | refine sp_set ?_ | refine sp_if ?_ | refine sp_ret ?_ | refine sp_expr ?_ | refine sp_asg ?_ | refine sp_next ?_ | refine sp_brk ?_ | refine sp_cont ?_ | refine sp_raise ?_ | refine sp_put ?_ | refine sp_retN ?_ | refine sp_par ?_ | refine sp_asgL ?_)
  try dsimp only
  refine sp_for (h1 := h4) [2, 3, 4] rs dRu (fun i vs H => ∃ (t : Rat) (x3 x4 : Option D), vs = [some (dr t), x3, x4] ∧ t = ((rs.map (·.1)).take i).foldl (fun t x => t + x) 0 ∧ RB (1 + 8 * i) t ∧ H = h4) (vs := [some (dr 0), none, none]) (by simp [okV_dRs, dRs]) rfl ⟨_, _, _, rfl, by simp, RB.zero, rfl⟩ ?_ ?_
  · rintro i r vs H hi ⟨t, x3, x4, rfl, ea, rb, rfl⟩
    refine ⟨_, rfl, ?_⟩
    have rm := List.mem_of_getElem? hi
    have il := (List.getElem?_eq_some_iff.mp hi).1
    have o6 : ∀ (n : Rat) (K : IH), okV K (dr n) = .ok (dr n) K := fun _ _ => rfl
    have rc := (ru r rm).ch.rb
    have pl := fun K : IH => ev_plus (h := K) rb rc (by omega) (by omega) (by decide)
    try simp only [setsE_cons, setsE_nil, List.set_cons_zero, List.set_cons_succ, List.map_cons, List.map_nil, List.length_cons, List.length_nil, List.cons_append, List.nil_append, List.append_nil, List.replicate_succ, List.replicate_zero, Nat.zero_add, Nat.reduceAdd, Nat.reduceSub, wipeE_nil, wipeE_cons, ↓reduceIte, Bool.false_eq_true, Bool.not_true, Bool.not_false]
    (first | refine sp_seq ?_ | refine sp_set ?_ | refine sp_if ?_ | refine sp_ret ?_ | refine sp_expr ?_ | refine sp_asg ?_ | refine sp_next ?_ | refine sp_brk ?_ | refine sp_cont ?_ | refine sp_raise ?_ | refine sp_put ?_ | refine sp_retN ?_ | refine sp_par ?_ | refine sp_asgL ?_)
    try dsimp only
    conv => (arg 1; simp [okV_iD, okV_dr, okV_dPt, okV_dP, okV_dG, okV_dC, okV_dB, ix_wd, iD_def, o6, pl])
    refine rp_ok ?_
    try dsimp only
    try simp only [setsE_cons, setsE_nil, List.set_cons_zero, List.set_cons_succ, List.map_cons, List.map_nil, List.length_cons, List.length_nil, List.cons_append, List.nil_append, List.append_nil, List.replicate_succ, List.replicate_zero, Nat.zero_add, Nat.reduceAdd, Nat.reduceSub, wipeE_nil, wipeE_cons, ↓reduceIte, Bool.false_eq_true, Bool.not_true, Bool.not_false]
    refine turn_next (vs := [_, _, _]) rfl ⟨_, _, _, rfl, ?_, ?_, rfl⟩
    · rw [List.take_add_one, List.getElem?_map, hi, List.foldl_append, ← ea]
      rfl
    · have := rb.add rc
      rw [show 1 + 8 * (i + 1) = 1 + 8 * i + 7 + 1 from by omega]
      exact this
  · rintro vs H ⟨t, x3, x4, rfl, ea, rb, rfl⟩
    rw [show rs.length = (rs.map (·.1)).length from (List.length_map ..).symm, List.take_length] at ea
    have ea : t = sumQ rs := ea
    subst ea
    have eq1 : ∀ K : IH, eqM (dr (sumQ rs)) (.tup [.int 1, .int 1]) K = .ok (.bl (decide (sumQ rs = 1))) K := fun K => eqM_dr (y := 1)
    have o6 : ∀ (n : Rat) (K : IH), okV K (dr n) = .ok (dr n) K := fun _ _ => rfl
    try simp only [setsE_cons, setsE_nil, List.set_cons_zero, List.set_cons_succ, List.map_cons, List.map_nil, List.length_cons, List.length_nil, List.cons_append, List.nil_append, List.append_nil, List.replicate_succ, List.replicate_zero, Nat.zero_add, Nat.reduceAdd, Nat.reduceSub, wipeE_nil, wipeE_cons, ↓reduceIte, Bool.false_eq_true, Bool.not_true, Bool.not_false]
    (first | refine sp_seq ?_ | refine sp_set ?_ | refine sp_if ?_ | refine sp_ret ?_ | refine sp_expr ?_ | refine sp_asg ?_ | refine sp_next ?_ | refine sp_brk ?_ | refine sp_cont ?_ | refine sp_raise ?_ | refine sp_put ?_ | refine sp_retN ?_ | refine sp_par ?_ | refine sp_asgL ?_)
    try dsimp only
    refine rp_and ?_
    conv => (arg 1; simp [okV_iD, okV_dr, okV_dPt, okV_dP, okV_dG, okV_dC, okV_dB, ix_wd, iD_def, o6, eq1])
    refine rp_ok ?_
    try dsimp only
    try simp only [setsE_cons, setsE_nil, List.set_cons_zero, List.set_cons_succ, List.map_cons, List.map_nil, List.length_cons, List.length_nil, List.cons_append, List.nil_append, List.append_nil, List.replicate_succ, List.replicate_zero, Nat.zero_add, Nat.reduceAdd, Nat.reduceSub, wipeE_nil, wipeE_cons, ↓reduceIte, Bool.false_eq_true, Bool.not_true, Bool.not_false]
    refine ⟨_, rfl, ?_⟩
    by_cases c : sumQ rs = 1
    · simp only [c, decide_true, if_true, Bool.true_and]
      refine rp_bin ?_
      refine ev_lens (rs := rs) (by decide) (by decide) (by omega) (by simp) (by simp) (by simp [okV_dRs]) fun H5 A5 => ?_
      have x3 : leM (iD (nS rs)) (.int 14) H5 = .ok (.bl (decide (nS rs ≤ 14))) H5 := le_nat (b := 14)
      refine rp_ok ?_
      refine rp_eq x3 ?_
      exact tq_ap (A4.trans A5) rfl ⟨rfl, rfl⟩
    · simp only [c, decide_false, Bool.false_eq_true, if_false, Bool.false_and]
      exact tq_ap A4 rfl ⟨rfl, rfl⟩
theorem ev_is_rules {many : Nat} {rs : List Ru} (o : OkRs many rs) : F_is_rules [dRs rs, iD many] h = .ok (.bl true) h := by
  rw [ev_is_rules_gen o.l1 o.l4 o.ru]
  simp [o.sum, o.n14]
def rlD : D → List D
  | .tup rs => rs.map fun r => match r with
    | .tup [_, .tup ss] => iD ss.length
    | _ => .non
  | _ => []
theorem rlD_dRs {rs : List Ru} : rlD (dRs rs) = rs.map fun r => iD r.2.length := by
  show (rs.map dRu).map (fun r => match r with
    | .tup [_, .tup ss] => iD ss.length
    | _ => .non) = _
  rw [List.map_map]
  refine List.map_congr_left fun r _ => ?_
  show iD (r.2.map dSy).length = _
  rw [List.length_map]
theorem sum_flat {gm : Gm} : (gm.flatMap fun rs => rs.map fun r : Ru => r.2.length).sum = (gm.map nS).sum := by
  induction gm with
  | nil => rfl
  | cons rs gm ih =>
    rw [List.flatMap_cons, List.sum_append, ih, List.map_cons, List.sum_cons]
    rfl
theorem len_flatN {α β : Type} {rr : α → List β} : ∀ {xs : List α}, (∀ x ∈ xs, (rr x).length ≤ 1000) → (xs.flatMap rr).length ≤ 1000 * xs.length
  | [], _ => by simp
  | x :: xs, H => by
    have a := H x List.mem_cons_self
    have b := len_flatN (rr := rr) (xs := xs) fun y hy => H y (List.mem_cons_of_mem _ hy)
    rw [List.flatMap_cons, List.length_append, List.length_cons]
    omega
theorem ev_is_grammar_gen {gm : Gm} (l1 : 1 ≤ gm.length) (l6 : gm.length ≤ 6) (ok : ∀ rs ∈ gm, OkRs gm.length rs) : F_is_grammar [dGm gm] h = .ok (.bl (decide ((gm.map fun rs => rs.length).sum ≤ 12) && decide (2 * gm.length + (gm.map nS).sum ≤ 40))) h := by
  have ty : ∀ H : IH, tyN H (dGm gm) = some "tuple" := fun _ => rfl
  have ln : ∀ H : IH, lenF [dGm gm] H = .ok (iD gm.length) H := fun _ => by
    show lenF [.tup (gm.map dRs)] _ = _
    rw [lenF_tup, List.length_map]; rfl
  have lr : ∀ (rs : List Ru) (H : IH), lenF [dRs rs] H = .ok (iD rs.length) H := fun rs _ => by
    show lenF [.tup (rs.map dRu)] _ = _
    rw [lenF_tup, List.length_map]; rfl
  have x1 : ∀ H : IH, leM (.int 1) (iD gm.length) H = .ok (.bl true) H := fun H => by
    show leM (iD 1) (iD gm.length) H = _
    rw [le_nat]
    simp [l1]
  have x2 : ∀ H : IH, leM (iD gm.length) (.int 6) H = .ok (.bl true) H := fun H => by
    show leM (iD gm.length) (iD 6) H = _
    rw [le_nat]
    simp [l6]
  refine rp_to' ?_
  unfold F_is_grammar M_is_grammar
  refine rp_def ?_
  simp only [setsE_cons, setsE_nil, List.set_cons_zero, List.set_cons_succ, List.map_cons, List.map_nil, List.length_cons, List.length_nil, List.cons_append, List.nil_append, List.append_nil, List.replicate_succ, List.replicate_zero, Nat.zero_add, Nat.reduceAdd, Nat.reduceSub, wipeE_nil, wipeE_cons, ↓reduceIte, Bool.false_eq_true, Bool.not_true, Bool.not_false]
  (first | refine sp_seq ?_ | refine sp_set ?_ | refine sp_if ?_ | refine sp_ret ?_ | refine sp_expr ?_ | refine sp_asg ?_ | refine sp_next ?_ | refine sp_brk ?_ | refine sp_cont ?_ | refine sp_raise ?_ | refine sp_put ?_ | refine sp_retN ?_ | refine sp_par ?_ | refine sp_asgL ?_)
  try dsimp only
  (first | refine sp_seq ?_ | refine sp_set ?_ | refine sp_if ?_ | refine sp_ret ?_ | refine sp_expr ?_ | refine sp_asg ?_ | refine sp_next ?_ | refine sp_brk ?_ | refine sp_cont ?_ | refine sp_raise ?_ | refine sp_put ?_ | refine sp_retN ?_ | refine sp_par ?_ | refine sp_asgL ?_)
  try dsimp only
  conv => (arg 1; simp [okV_iD, okV_dr, okV_dPt, okV_dP, okV_dG, okV_dC, okV_dB, ix_wd, iD_def, okV_dGm, ty, ln, x1, x2])
  refine rp_ok ?_
  try dsimp only
  try simp only [setsE_cons, setsE_nil, List.set_cons_zero, List.set_cons_succ, List.map_cons, List.map_nil, List.length_cons, List.length_nil, List.cons_append, List.nil_append, List.append_nil, List.replicate_succ, List.replicate_zero, Nat.zero_add, Nat.reduceAdd, Nat.reduceSub, wipeE_nil, wipeE_cons, ↓reduceIte, Bool.false_eq_true, Bool.not_true, Bool.not_false]
  (first | refine sp_seq ?_ | refine sp_set ?_ | refine sp_if ?_ | refine sp_ret ?_ | refine sp_expr ?_ | refine sp_asg ?_ | refine sp_next ?_ | refine sp_brk ?_ | refine sp_cont ?_ | refine sp_raise ?_ | refine sp_put ?_ | refine sp_retN ?_ | refine sp_par ?_ | refine sp_asgL ?_)
  try dsimp only
  (first | refine sp_seq ?_ | refine sp_set ?_ | refine sp_if ?_ | refine sp_ret ?_ | refine sp_expr ?_ | refine sp_asg ?_ | refine sp_next ?_ | refine sp_brk ?_ | refine sp_cont ?_ | refine sp_raise ?_ | refine sp_put ?_ | refine sp_retN ?_ | refine sp_par ?_ | refine sp_asgL ?_)
  try dsimp only
  (first | refine sp_seq ?_ | refine sp_set ?_ | refine sp_if ?_ | refine sp_ret ?_ | refine sp_expr ?_ | refine sp_asg ?_ | refine sp_next ?_ | refine sp_brk ?_ | refine sp_cont ?_ | refine sp_raise ?_ | refine sp_put ?_ | refine sp_retN ?_ | refine sp_par ?_ | refine sp_asgL ?_)
  try dsimp only
  refine rp_tnot (rp_test (rp_call (rp_acons ?_)))
  refine rp_lc (h1 := h) gm dRs (fun _ => .bl true) (by simp [okV_dGm, dGm]) (by omega) (fun rs hr => ⟨_, rfl, ?_⟩) ?_
  · have e := fun H : IH => ev_is_rules (h := H) (many := gm.length) (ok rs hr)
    conv => (arg 1; simp [okV_iD, okV_dr, okV_dPt, okV_dP, okV_dG, okV_dC, okV_dB, ix_wd, iD_def, wipeE_cons, wipeE_nil, okV_dRs, okV_dGm, ln, e])
    refine rp_ok ?_
    try dsimp only
    try simp only [setsE_cons, setsE_nil, List.set_cons_zero, List.set_cons_succ, List.map_cons, List.map_nil, List.length_cons, List.length_nil, List.cons_append, List.nil_append, List.append_nil, List.replicate_succ, List.replicate_zero, Nat.zero_add, Nat.reduceAdd, Nat.reduceSub, wipeE_nil, wipeE_cons, ↓reduceIte, Bool.false_eq_true, Bool.not_true, Bool.not_false]
    all_goals (first | exact ⟨rfl, rfl⟩ | exact ⟨rfl, trivial⟩ | exact ⟨trivial, rfl⟩ | rfl | trivial)
  intro k h4 A4 q4 l4 _
  refine rp_anil ?_
  refine rp_eq ((allF_true q4)) ?_
  try dsimp only
  try simp only [setsE_cons, setsE_nil, List.set_cons_zero, List.set_cons_succ, List.map_cons, List.map_nil, List.length_cons, List.length_nil, List.cons_append, List.nil_append, List.append_nil, List.replicate_succ, List.replicate_zero, Nat.zero_add, Nat.reduceAdd, Nat.reduceSub, wipeE_nil, wipeE_cons, ↓reduceIte, Bool.false_eq_true, Bool.not_true, Bool.not_false]
  refine ⟨_, rfl, ?_⟩
  try dsimp only
  (first | refine sp_seq ?_ | refine sp_set ?_ | refine sp_if ?_ | refine sp_ret ?_ | refine sp_expr ?_ | refine sp_asg ?_ | refine sp_next ?_ | refine sp_brk ?_ | refine sp_cont ?_ | refine sp_raise ?_ | refine sp_put ?_ | refine sp_retN ?_ | refine sp_par ?_ | refine sp_asgL ?_)
  try dsimp only
  (first | refine sp_seq ?_ | refine sp_set ?_ | refine sp_if ?_ | refine sp_ret ?_ | refine sp_expr ?_ | refine sp_asg ?_ | refine sp_next ?_ | refine sp_brk ?_ | refine sp_cont ?_ | refine sp_raise ?_ | refine sp_put ?_ | refine sp_retN ?_ | refine sp_par ?_ | refine sp_asgL ?_)
  try dsimp only
  (first | refine sp_seq ?_ | refine sp_set ?_ | refine sp_if ?_ | refine sp_ret ?_ | refine sp_expr ?_ | refine sp_asg ?_ | refine sp_next ?_ | refine sp_brk ?_ | refine sp_cont ?_ | refine sp_raise ?_ | refine sp_put ?_ | refine sp_retN ?_ | refine sp_par ?_ | refine sp_asgL ?_)
  try dsimp only
  refine rp_btest (rp_bin (rp_call (rp_acons ?_)))
  refine rp_lc (h1 := h4) gm dRs (fun rs => iD rs.length) (by simp [okV_dGm, dGm]) (by omega) (fun rs hr => ⟨_, rfl, ?_⟩) ?_
  · conv => (arg 1; simp [okV_iD, okV_dr, okV_dPt, okV_dP, okV_dG, okV_dC, okV_dB, ix_wd, iD_def, wipeE_cons, wipeE_nil, okV_dRs, lr])
    refine rp_ok ?_
    try dsimp only
    try simp only [setsE_cons, setsE_nil, List.set_cons_zero, List.set_cons_succ, List.map_cons, List.map_nil, List.length_cons, List.length_nil, List.cons_append, List.nil_append, List.append_nil, List.replicate_succ, List.replicate_zero, Nat.zero_add, Nat.reduceAdd, Nat.reduceSub, wipeE_nil, wipeE_cons, ↓reduceIte, Bool.false_eq_true, Bool.not_true, Bool.not_false]
    all_goals (first | exact ⟨rfl, rfl⟩ | exact ⟨rfl, trivial⟩ | exact ⟨trivial, rfl⟩ | rfl | trivial)
  intro k5 h5 A5 q5 l5 _
  have sf := sumF_at (h := h5) (q := k5) (ws := gm.map fun rs => rs.length) (by rw [q5, List.map_map]; rfl)
  refine rp_anil (rp_eq sf ?_)
  have gt : gtM (.int ((gm.map fun rs => rs.length).sum : Nat)) (.int 12) h5 = .ok (.bl (decide (12 < (gm.map fun rs => rs.length).sum))) h5 := gt_nat (a := (gm.map fun rs : List Ru => rs.length).sum) (b := 12)
  refine rp_ok ?_
  refine rp_eq gt ⟨_, rfl, ?_⟩
  by_cases c12 : 12 < (gm.map fun rs => rs.length).sum
  · have n12 : ¬ (gm.map fun rs => rs.length).sum ≤ 12 := by omega
    simp only [c12, n12, decide_true, decide_false, if_true, Bool.false_and]
    (first | refine sp_seq ?_ | refine sp_set ?_ | refine sp_if ?_ | refine sp_ret ?_ | refine sp_expr ?_ | refine sp_asg ?_ | refine sp_next ?_ | refine sp_brk ?_ | refine sp_cont ?_ | refine sp_raise ?_ | refine sp_put ?_ | refine sp_retN ?_ | refine sp_par ?_ | refine sp_asgL ?_)
    try dsimp only
    conv => (arg 1; simp [okV_iD, okV_dr, okV_dPt, okV_dP, okV_dG, okV_dC, okV_dB, ix_wd, iD_def])
    refine rp_ok ?_
    try dsimp only
    try simp only [setsE_cons, setsE_nil, List.set_cons_zero, List.set_cons_succ, List.map_cons, List.map_nil, List.length_cons, List.length_nil, List.cons_append, List.nil_append, List.append_nil, List.replicate_succ, List.replicate_zero, Nat.zero_add, Nat.reduceAdd, Nat.reduceSub, wipeE_nil, wipeE_cons, ↓reduceIte, Bool.false_eq_true, Bool.not_true, Bool.not_false]
    exact tq_ap (A4.trans A5) rfl ⟨rfl, rfl⟩
  have n12 : (gm.map fun rs => rs.length).sum ≤ 12 := by omega
  simp only [c12, n12, decide_true, decide_false, Bool.false_eq_true, if_false, Bool.true_and]
  (first | refine sp_seq ?_ | refine sp_set ?_ | refine sp_if ?_ | refine sp_ret ?_ | refine sp_expr ?_ | refine sp_asg ?_ | refine sp_next ?_ | refine sp_brk ?_ | refine sp_cont ?_ | refine sp_raise ?_ | refine sp_put ?_ | refine sp_retN ?_ | refine sp_par ?_ | refine sp_asgL ?_)
  try dsimp only
  (first | refine sp_seq ?_ | refine sp_set ?_ | refine sp_if ?_ | refine sp_ret ?_ | refine sp_expr ?_ | refine sp_asg ?_ | refine sp_next ?_ | refine sp_brk ?_ | refine sp_cont ?_ | refine sp_raise ?_ | refine sp_put ?_ | refine sp_retN ?_ | refine sp_par ?_ | refine sp_asgL ?_)
  try dsimp only
  (first | refine sp_seq ?_ | refine sp_set ?_ | refine sp_if ?_ | refine sp_ret ?_ | refine sp_expr ?_ | refine sp_asg ?_ | refine sp_next ?_ | refine sp_brk ?_ | refine sp_cont ?_ | refine sp_raise ?_ | refine sp_put ?_ | refine sp_retN ?_ | refine sp_par ?_ | refine sp_asgL ?_)
  try dsimp only
  have mo : gm.length < MOST := by unfold MOST; omega
  have ft : (gm.map dRs).flatMap rlD = (gm.flatMap fun rs => rs.map fun r : Ru => r.2.length).map iD := by
    rw [List.flatMap_map, List.map_flatMap]
    refine congrArg List.flatten (List.map_congr_left fun rs _ => ?_)
    rw [rlD_dRs, List.map_map]
    rfl
  have fl : (gm.flatMap fun rs => rs.map fun r : Ru => r.2.length).length ≤ 1000 * gm.length := len_flatN fun rs hr => by
    have := (ok rs hr).l4
    rw [List.length_map]
    omega
  refine rp_eq (lc2_map (h := h5) (ds := gm.map dRs) (r := rlD) (by simp [okV_dGm, dGm]) (by rw [List.length_map]; exact mo) (by rw [ft, List.length_map]; omega) fun d hd => ?_) ?_
  · obtain ⟨rs, hr, rfl⟩ := List.mem_map.mp hd
    have := (ok rs hr).l4
    refine ⟨_, rs.map dRu, rfl, by rw [List.length_map]; unfold MOST; omega, by rw [rlD_dRs, List.length_map, List.length_map], fun acc => ⟨by simp [wipeE_cons, wipeE_nil, okV_dRs, dRs], fun i d1 y h1 h2 => ?_⟩⟩
    rw [rlD_dRs] at h2
    rw [List.getElem?_map] at h1 h2
    obtain ⟨r, e1, rfl⟩ := Option.map_eq_some_iff.mp h1
    rw [e1] at h2
    cases h2
    have i1 : ∀ H : IH, ixM (dRu r) (.int 1) H = .ok (.tup (r.2.map dSy)) H := fun _ => rfl
    have ls : ∀ H : IH, lenF [.tup (r.2.map dSy)] H = .ok (iD r.2.length) H := fun _ => by
      rw [lenF_tup, List.length_map]; rfl
    exact ⟨_, rfl, by simp [wipeE_cons, wipeE_nil, okV_dRu, i1, ls, -lenF_tup]⟩
  have A6 : Ap h5 (h5 ++ [IO.lst ((gm.map dRs).flatMap rlD)]) := .app
  have q6 : (h5 ++ [IO.lst ((gm.map dRs).flatMap rlD)])[h5.length]? = some (.lst ((gm.flatMap fun rs => rs.map fun r : Ru => r.2.length).map iD)) := by
    rw [← ft]
    simp
  generalize h5 ++ [IO.lst ((gm.map dRs).flatMap rlD)] = h6 at A6 q6
  have sf2 := sumF_at (h := h6) (q := h5.length) q6
  rw [sum_flat] at sf2
  have mu : mulM (.int 2) (iD gm.length) h6 = .ok (iD (2 * gm.length)) h6 := by
    have : mulM (.int 2) (.int (gm.length : Int)) h6 = .ok (.int (2 * (gm.length : Int))) h6 := mulM_int (small_of (Bit.pos (k := 4) (x := 2) (by decide) (by decide)) (Bit.pos (k := 4) (by omega) (by omega)))
    unfold iD
    rw [this]
    push_cast
    rfl
  have ad : addM (iD (2 * gm.length)) (.int ((gm.map nS).sum : Nat)) h6 = .ok (iD (2 * gm.length + (gm.map nS).sum)) h6 := by
    show R.ok (D.int (((2 * gm.length : Nat) : Int) + (((gm.map nS).sum : Nat) : Int))) h6 = .ok (D.int ((2 * gm.length + (gm.map nS).sum : Nat) : Int)) h6
    push_cast
    rfl
  have le : leM (iD (2 * gm.length + (gm.map nS).sum)) (.int 40) h6 = .ok (.bl (decide (2 * gm.length + (gm.map nS).sum ≤ 40))) h6 := le_nat (b := 40)
  try simp only [setsE_cons, setsE_nil, List.set_cons_zero, List.set_cons_succ, List.map_cons, List.map_nil, List.length_cons, List.length_nil, List.cons_append, List.nil_append, List.append_nil, List.replicate_succ, List.replicate_zero, Nat.zero_add, Nat.reduceAdd, Nat.reduceSub, wipeE_nil, wipeE_cons, ↓reduceIte, Bool.false_eq_true, Bool.not_true, Bool.not_false]
  (first | refine sp_seq ?_ | refine sp_set ?_ | refine sp_if ?_ | refine sp_ret ?_ | refine sp_expr ?_ | refine sp_asg ?_ | refine sp_next ?_ | refine sp_brk ?_ | refine sp_cont ?_ | refine sp_raise ?_ | refine sp_put ?_ | refine sp_retN ?_ | refine sp_par ?_ | refine sp_asgL ?_)
  try dsimp only
  conv => (arg 1; simp [okV_iD, okV_dr, okV_dPt, okV_dP, okV_dG, okV_dC, okV_dB, ix_wd, iD_def, okV_dGm, ln, mu, sf2, ad, le])
  refine rp_ok ?_
  try dsimp only
  try simp only [setsE_cons, setsE_nil, List.set_cons_zero, List.set_cons_succ, List.map_cons, List.map_nil, List.length_cons, List.length_nil, List.cons_append, List.nil_append, List.append_nil, List.replicate_succ, List.replicate_zero, Nat.zero_add, Nat.reduceAdd, Nat.reduceSub, wipeE_nil, wipeE_cons, ↓reduceIte, Bool.false_eq_true, Bool.not_true, Bool.not_false]
  exact tq_ap (A4.trans (A5.trans A6)) rfl ⟨by first | rfl | exact congrArg D.bl (decide_eq_decide.mpr (by omega)), rfl⟩
theorem ev_is_grammar {gm : Gm} (o : OkGm gm) : F_is_grammar [dGm gm] h = .ok (.bl true) h := by
  rw [ev_is_grammar_gen o.l1 o.l6 o.rs]
  simp [o.r12, o.p40]
theorem ev_check_grammar {gm : Gm} (o : OkGm gm) : F_check_grammar [dGm gm] h = .ok .non h := by
  have e := fun H : IH => ev_is_grammar (h := H) o
  refine rp_to' ?_
  unfold F_check_grammar M_check_grammar
  refine rp_def ?_
  simp only [setsE_cons, setsE_nil, List.set_cons_zero, List.set_cons_succ, List.map_cons, List.map_nil, List.length_cons, List.length_nil, List.cons_append, List.nil_append, List.append_nil, List.replicate_succ, List.replicate_zero, Nat.zero_add, Nat.reduceAdd, Nat.reduceSub, wipeE_nil, wipeE_cons, ↓reduceIte, Bool.false_eq_true, Bool.not_true, Bool.not_false]
  (first | refine sp_seq ?_ | refine sp_set ?_ | refine sp_if ?_ | refine sp_ret ?_ | refine sp_expr ?_ | refine sp_asg ?_ | refine sp_next ?_ | refine sp_brk ?_ | refine sp_cont ?_ | refine sp_raise ?_ | refine sp_put ?_ | refine sp_retN ?_ | refine sp_par ?_ | refine sp_asgL ?_)
  try dsimp only
  conv => (arg 1; simp [okV_iD, okV_dr, okV_dPt, okV_dP, okV_dG, okV_dC, okV_dB, ix_wd, iD_def, okV_dGm, e])
  refine rp_ok ?_
  try dsimp only
  try simp only [setsE_cons, setsE_nil, List.set_cons_zero, List.set_cons_succ, List.map_cons, List.map_nil, List.length_cons, List.length_nil, List.cons_append, List.nil_append, List.append_nil, List.replicate_succ, List.replicate_zero, Nat.zero_add, Nat.reduceAdd, Nat.reduceSub, wipeE_nil, wipeE_cons, ↓reduceIte, Bool.false_eq_true, Bool.not_true, Bool.not_false]
  (first | refine sp_seq ?_ | refine sp_set ?_ | refine sp_if ?_ | refine sp_ret ?_ | refine sp_expr ?_ | refine sp_asg ?_ | refine sp_next ?_ | refine sp_brk ?_ | refine sp_cont ?_ | refine sp_raise ?_ | refine sp_put ?_ | refine sp_retN ?_ | refine sp_par ?_ | refine sp_asgL ?_)
  try dsimp only
  exact tq_same ⟨rfl, rfl⟩
end
end Zc
/-! G20C: graphs of grammars. -/
namespace Zc
open PySem L2 Z Q
/-! ### the graph is right -/
/-! ### it is built -/
section
variable {h : IH} {Q : D → IH → Prop} {X : Exc → IH → Prop}
end
end Zc
/-! G23P: derivations of plain grammars, plain. -/
namespace Zc
open PySem L2 Z Q
/-- chance, word, outline -/
abbrev Dv := Rat × List Nat × List (Nat × Nat)
/-- a rule's symbols are plain -/
def PlS (ss : List Sy) : Prop := (∃ c, ss = [.l c]) ∨ 2 ≤ ss.length
structure Pg (gm : Gm) : Prop where
  ok : OkGm gm
  m3 : gm.length ≤ 3
  r3 : ∀ rs ∈ gm, rs.length ≤ 3
  s3 : ∀ rs ∈ gm, ∀ r ∈ rs, r.2.length ≤ 3
  pl : ∀ rs ∈ gm, ∀ r ∈ rs, PlS r.2
  c60 : ∀ rs ∈ gm, ∀ r ∈ rs, ∃ n : Nat, n ≤ 60 ∧ r.1 = wR n
def mulD (a t : Dv) : Dv := (a.1 * t.1, a.2.1 ++ t.2.1, a.2.2 ++ t.2.2)
def oneD : Dv := (1, [], [])
/-- rows -/
def rwD (f : Sy → Nat → List Dv) : List Sy → Nat → List Dv
  | [], _ => [oneD]
  | s :: ss, L => (f s (L - ss.length)).flatMap fun t => (rwD f ss (L - t.2.1.length)).map (mulD t)
/-- rows, symbol by symbol -/
def rwF (f : Sy → Nat → List Dv) (L : Nat) : List Sy → List Dv → List Dv
  | [], acc => acc
  | s :: ss, acc => rwF f L ss (acc.flatMap fun a => (f s (L - a.2.1.length - ss.length)).map (mulD a))
/-- trees, n levels deep -/
def trD (gm : Gm) : Nat → Sy → Nat → List Dv
  | _, .l c, L => if 0 < L then [(1, [c], [])] else []
  | 0, .v _, _ => []
  | n + 1, .v k, L => (gm.getD k []).zipIdx.flatMap fun r => if r.1.2.length ≤ L then (rwD (trD gm n) r.1.2 L).map fun d => (r.1.1 * d.1, d.2.1, (k, r.2) :: d.2.2) else []
/-! ### the program's values -/
def rwV (f : Sy → List Nat → Rat) : List Sy → List Nat → Rat
  | [], _ => 0
  | [s], u => f s u
  | s :: t :: ss, u => sm (fun i => f s (u.take (i + 1)) * rwV f (t :: ss) (u.drop (i + 1))) (u.length - (ss.length + 1))
def syV (gm : Gm) : Nat → Sy → List Nat → Rat
  | _, .l c, u => if u = [c] then 1 else 0
  | 0, .v _, _ => 0
  | n + 1, .v k, u => psum ((gm.getD k []).map fun r => r.1 * rwV (syV gm n) r.2 u)
theorem mulD_assoc {a b c : Dv} : mulD (mulD a b) c = mulD a (mulD b c) := by
  unfold mulD
  simp [Rat.mul_assoc]
theorem mulD_one {a : Dv} : mulD oneD a = a := by
  unfold mulD oneD
  simp [Rat.one_mul]
section
variable {gm : Gm} {f g : Sy → Nat → List Dv} {L : Nat} {ss : List Sy} {s : Sy} {u : List Nat} {n : Nat}
theorem rwF_eq : ∀ (ss : List Sy) (acc : List Dv), rwF f L ss acc = acc.flatMap fun a => (rwD f ss (L - a.2.1.length)).map (mulD a)
  | [], acc => by
    show acc = acc.flatMap fun a => [mulD a oneD]
    have : ∀ a : Dv, mulD a oneD = a := fun a => by unfold mulD oneD; simp [Rat.mul_one]
    simp [this]
  | s :: ss, acc => by
    show rwF f L ss (acc.flatMap fun a => (f s (L - a.2.1.length - ss.length)).map (mulD a)) = acc.flatMap fun a => ((f s (L - a.2.1.length - ss.length)).flatMap fun t => (rwD f ss (L - a.2.1.length - t.2.1.length)).map (mulD t)).map (mulD a)
    rw [rwF_eq ss, List.flatMap_assoc]
    congr 1
    funext a
    rw [List.flatMap_map, List.map_flatMap]
    congr 1
    funext t
    rw [List.map_map]
    have e : L - (mulD a t).2.1.length = L - a.2.1.length - t.2.1.length := by
      show L - (a.2.1 ++ t.2.1).length = _
      rw [List.length_append]
      omega
    rw [e]
    congr 1
    funext r
    exact mulD_assoc
theorem rwF_one : rwF f L ss [oneD] = rwD f ss L := by
  rw [rwF_eq]
  show ((rwD f ss (L - 0)).map (mulD oneD)) ++ [] = _
  rw [List.append_nil, show (mulD oneD) = id from funext fun a => mulD_one, List.map_id]
  rfl
/-! ### words are not empty -/
/-- the words of f are right -/
def WdOk (f : Sy → Nat → List Dv) : Prop := ∀ s L, ∀ t ∈ f s L, 1 ≤ t.2.1.length ∧ t.2.1.length ≤ L
theorem rwD_len (w : WdOk f) : ∀ (ss : List Sy) (L : Nat), ss.length ≤ L → ∀ d ∈ rwD f ss L, ss.length ≤ d.2.1.length ∧ d.2.1.length ≤ L
  | [], L, _, d, hd => by
    have : d = oneD := by simpa [rwD] using hd
    rw [this]
    exact ⟨Nat.zero_le _, Nat.zero_le _⟩
  | s :: ss, L, hl, d, hd => by
    rw [List.length_cons] at hl
    obtain ⟨t, ht, hd⟩ := List.mem_flatMap.mp hd
    obtain ⟨r, hr, rfl⟩ := List.mem_map.mp hd
    have h1 := w s _ t ht
    have h2 := rwD_len w ss (L - t.2.1.length) (by omega) r hr
    show _ ≤ (t.2.1 ++ r.2.1).length ∧ (t.2.1 ++ r.2.1).length ≤ L
    rw [List.length_append, List.length_cons]
    omega
theorem getD_mem {k : Nat} {r : Ru} (hr : r ∈ gm.getD k []) : ∃ rs ∈ gm, r ∈ rs ∧ gm.getD k [] = rs := by
  cases e : gm[k]? with
  | none => simp [List.getD, e] at hr
  | some rs =>
    have z : gm.getD k [] = rs := by simp [List.getD, e]
    rw [z] at hr
    exact ⟨rs, List.mem_of_getElem? e, hr, z⟩
theorem PlS.pos (h : PlS ss) : 1 ≤ ss.length := by
  rcases h with ⟨c, rfl⟩ | h
  · simp
  · omega
theorem trD_ok (pg : Pg gm) : ∀ n, WdOk (trD gm n)
  | 0, s, L, t, ht => by
    cases s with
    | l x =>
      unfold trD at ht
      split at ht
      · rename_i c
        have : t = (1, [x], []) := by simpa using ht
        rw [this]
        exact ⟨Nat.le_refl _, c⟩
      · cases ht
    | v k => cases ht
  | n + 1, s, L, t, ht => by
    cases s with
    | l x =>
      unfold trD at ht
      split at ht
      · rename_i c
        have : t = (1, [x], []) := by simpa using ht
        rw [this]
        exact ⟨Nat.le_refl _, c⟩
      · cases ht
    | v k =>
      unfold trD at ht
      obtain ⟨r, hr, ht⟩ := List.mem_flatMap.mp ht
      have hm := List.mem_zipIdx' (x := r.1) (i := r.2) hr
      have hr1 : r.1 ∈ gm.getD k [] := by rw [hm.2]; exact List.getElem_mem _
      obtain ⟨rs, h1, h2, _⟩ := getD_mem hr1
      have p := (pg.pl rs h1 r.1 h2).pos
      split at ht
      · rename_i c
        obtain ⟨d, hd, rfl⟩ := List.mem_map.mp ht
        have z := rwD_len (trD_ok pg n) r.1.2 L c d hd
        show 1 ≤ d.2.1.length ∧ d.2.1.length ≤ L
        omega
      · cases ht
/-! ### sums by words -/
end
end Zc
/-! G23Q: the program's values: the depth does not matter; sizes; how many derivations. -/
namespace Zc
open PySem L2 Z Q
section
variable {gm : Gm} {ss : List Sy} {s : Sy} {u : List Nat} {n : Nat}
/-- the value -/
def vv (gm : Gm) : Sy → List Nat → Rat := syV gm 9
/-! ### sizes -/
theorem fr_wR {w : Nat} (hw : w ≤ 60) : Fr 1 2520 (wR w) := by
  refine ⟨w * 42, by omega, ?_⟩
  unfold wR
  rw [Rat.divInt_eq_div]
  push_cast
  grind
theorem FrB.rb4 {i : Nat} {x : Rat} (h : FrB i x) (hi : i ≤ 19) : RB 400 x := h.rb.mono (by omega)
theorem Fr.rb4 {i j : Nat} {x : Rat} (h : Fr i (BN i * 2 ^ j) x) (hi : 20 * i + 1 + j ≤ 400) : RB 400 x := by
  refine Fr.rb h ?_ ?_
  · have := bn_lt i
    calc BN i * 2 ^ j < 2 ^ (20 * i + 1) * 2 ^ j := Nat.mul_lt_mul_of_pos_right this (Nat.pow_pos (by decide))
      _ = 2 ^ (20 * i + 1 + j) := (Nat.pow_add ..).symm
      _ ≤ _ := Nat.pow_le_pow_right (by decide) hi
  · have := bn_lt i
    have := p_le_bn i
    have : 2 ^ (20 * i + 1) ≤ 2 ^ 400 := Nat.pow_le_pow_right (by decide) (by omega)
    omega
theorem c60_rb (pg : Pg gm) {rs : List Ru} (hr : rs ∈ gm) {r : Ru} (h : r ∈ rs) : RB 400 r.1 := by
  obtain ⟨w, hw, e⟩ := pg.c60 rs hr r h
  rw [e]
  exact FrB.rb4 (i := 1) ((fr_wR hw).mono (by decide)) (by decide)
end
end Zc
/-! G23A: plain grammars drawn. -/
namespace Zc
open PySem L2 Z Q
section
variable {h : IH}
theorem azm {b : Nat} (hb : b < 3) : ∃ c, ixM (.str "azm") (iD b) h = .ok (.str ⟨#[c]⟩) h ∧ 97 ≤ c ∧ c ≤ 122 := by
  match b, hb with
  | 0, _ => exact ⟨97, rfl, by decide, by decide⟩
  | 1, _ => exact ⟨122, rfl, by decide, by decide⟩
  | 2, _ => exact ⟨109, rfl, by decide, by decide⟩
theorem ev_law_symbol2 {n : Nat} {many lt : Nat} (w : St n h) (hn : n + 2 ≤ NM) (m1 : 0 < many) (mb : many ≤ 1000) (l1 : 0 < lt) (l3 : lt ≤ 3) : ∃ s h', F__law_symbol [.ref 1, iD many, iD lt] h = .ok (dSy s) h' ∧ OkSy many s ∧ Gw (n + 2) h h' := by
  have goal : rp (F__law_symbol [.ref 1, iD many, iD lt] h) (fun d H => ∃ s, d = dSy s ∧ OkSy many s ∧ Gw (n + 2) h H) noX := by
    obtain ⟨a, h1, e1, a5, g1, n1⟩ := ev_dn (k := 5) w (by omega)
    have e1' : F__law_next [.ref 1, .int 5] h = .ok (iD a) h1 := e1
    have lt2 : ltM (iD a) (.int 2) h1 = .ok (.bl (decide (a < 2))) h1 := lt_nat (b := 2)
    unfold F__law_symbol M__law_symbol
    refine rp_def ?_
    simp only [setsE_cons, setsE_nil, List.set_cons_zero, List.set_cons_succ, List.map_cons, List.map_nil, List.length_cons, List.length_nil, List.cons_append, List.nil_append, List.append_nil, List.replicate_succ, List.replicate_zero, Nat.zero_add, Nat.reduceAdd, Nat.reduceSub, wipeE_nil, wipeE_cons, ↓reduceIte, Bool.false_eq_true, Bool.not_true, Bool.not_false]
    (first | refine sp_seq ?_ | refine sp_set ?_ | refine sp_if ?_ | refine sp_ret ?_ | refine sp_expr ?_ | refine sp_asg ?_ | refine sp_next ?_ | refine sp_brk ?_ | refine sp_cont ?_ | refine sp_raise ?_ | refine sp_put ?_ | refine sp_retN ?_ | refine sp_par ?_ | refine sp_asgL ?_)
    try dsimp only
    (first | refine sp_seq ?_ | refine sp_set ?_ | refine sp_if ?_ | refine sp_ret ?_ | refine sp_expr ?_ | refine sp_asg ?_ | refine sp_next ?_ | refine sp_brk ?_ | refine sp_cont ?_ | refine sp_raise ?_ | refine sp_put ?_ | refine sp_retN ?_ | refine sp_par ?_ | refine sp_asgL ?_)
    try dsimp only
    conv => (arg 1; simp [okV_iD, okV_dr, okV_dPt, okV_dP, okV_dG, okV_dC, okV_dB, ix_wd, iD_def, e1', lt2])
    refine rp_ok ?_
    try dsimp only
    try simp only [setsE_cons, setsE_nil, List.set_cons_zero, List.set_cons_succ, List.map_cons, List.map_nil, List.length_cons, List.length_nil, List.cons_append, List.nil_append, List.append_nil, List.replicate_succ, List.replicate_zero, Nat.zero_add, Nat.reduceAdd, Nat.reduceSub, wipeE_nil, wipeE_cons, ↓reduceIte, Bool.false_eq_true, Bool.not_true, Bool.not_false]
    by_cases c : a < 2
    · simp only [c, decide_true, if_true]
      obtain ⟨b, h2, e2, b5, g2, n2⟩ := ev_dn (k := many) g1.st (by omega) m1 (by omega)
      (first | refine sp_seq ?_ | refine sp_set ?_ | refine sp_if ?_ | refine sp_ret ?_ | refine sp_expr ?_ | refine sp_asg ?_ | refine sp_next ?_ | refine sp_brk ?_ | refine sp_cont ?_ | refine sp_raise ?_ | refine sp_put ?_ | refine sp_retN ?_ | refine sp_par ?_ | refine sp_asgL ?_)
      try dsimp only
      conv => (arg 1; simp [okV_iD, okV_dr, okV_dPt, okV_dP, okV_dG, okV_dC, okV_dB, ix_wd, iD_def, e2])
      refine rp_ok ?_
      try dsimp only
      try simp only [setsE_cons, setsE_nil, List.set_cons_zero, List.set_cons_succ, List.map_cons, List.map_nil, List.length_cons, List.length_nil, List.cons_append, List.nil_append, List.append_nil, List.replicate_succ, List.replicate_zero, Nat.zero_add, Nat.reduceAdd, Nat.reduceSub, wipeE_nil, wipeE_cons, ↓reduceIte, Bool.false_eq_true, Bool.not_true, Bool.not_false]
      exact tq_gw w (by omega) (g1.trans g2) fun h3 G => ⟨.v b, rfl, b5, G⟩
    · simp only [c, decide_false, Bool.false_eq_true, if_false]
      obtain ⟨b, h2, e2, b5, g2, n2⟩ := ev_dn (k := lt) g1.st (by omega) l1 (by omega)
      obtain ⟨c, ix, c1, c2⟩ := azm (h := h2) (b := b) (by omega)
      (first | refine sp_seq ?_ | refine sp_set ?_ | refine sp_if ?_ | refine sp_ret ?_ | refine sp_expr ?_ | refine sp_asg ?_ | refine sp_next ?_ | refine sp_brk ?_ | refine sp_cont ?_ | refine sp_raise ?_ | refine sp_put ?_ | refine sp_retN ?_ | refine sp_par ?_ | refine sp_asgL ?_)
      try dsimp only
      (first | refine sp_seq ?_ | refine sp_set ?_ | refine sp_if ?_ | refine sp_ret ?_ | refine sp_expr ?_ | refine sp_asg ?_ | refine sp_next ?_ | refine sp_brk ?_ | refine sp_cont ?_ | refine sp_raise ?_ | refine sp_put ?_ | refine sp_retN ?_ | refine sp_par ?_ | refine sp_asgL ?_)
      try dsimp only
      conv => (arg 1; simp [okV_iD, okV_dr, okV_dPt, okV_dP, okV_dG, okV_dC, okV_dB, ix_wd, iD_def, e2, ix])
      refine rp_ok ?_
      try dsimp only
      try simp only [setsE_cons, setsE_nil, List.set_cons_zero, List.set_cons_succ, List.map_cons, List.map_nil, List.length_cons, List.length_nil, List.cons_append, List.nil_append, List.append_nil, List.replicate_succ, List.replicate_zero, Nat.zero_add, Nat.reduceAdd, Nat.reduceSub, wipeE_nil, wipeE_cons, ↓reduceIte, Bool.false_eq_true, Bool.not_true, Bool.not_false]
      exact tq_gw w (by omega) (g1.trans g2) fun h3 G => ⟨.l c, rfl, ⟨c1, c2⟩, G⟩
  obtain ⟨d, h', e, s, rfl, o, G⟩ := rp_to goal
  exact ⟨s, h', e, o, G⟩
theorem ev_law_plain_symbols {n : Nat} {many lt : Nat} (w : St n h) (hn : n + 8 ≤ NM) (m1 : 0 < many) (mb : many ≤ 1000) (l1 : 0 < lt) (l3 : lt ≤ 3) : ∃ (ss : List Sy) (h' : IH), F__law_plain_symbols [.ref 1, iD many, iD lt, .int 3] h = .ok (.tup (ss.map dSy)) h' ∧ (∀ s ∈ ss, OkSy many s) ∧ PlS ss ∧ ss.length ≤ 3 ∧ Gw (n + 8) h h' := by
  have goal : rp (F__law_plain_symbols [.ref 1, iD many, iD lt, .int 3] h) (fun d H => ∃ ss : List Sy, d = .tup (ss.map dSy) ∧ (∀ s ∈ ss, OkSy many s) ∧ PlS ss ∧ ss.length ≤ 3 ∧ Gw (n + 8) h H) noX := by
    obtain ⟨a, h1, e1, a5, g1, n1⟩ := ev_dn (k := 3) w (by omega)
    have e1' : F__law_next [.ref 1, .int 3] h = .ok (iD a) h1 := e1
    have q0 : eqM (iD a) (.int 0) h1 = .ok (.bl (decide (a = 0))) h1 := eq_nat (b := 0)
    have z1 := g1.st.lt
    unfold F__law_plain_symbols M__law_plain_symbols
    refine rp_def ?_
    simp only [setsE_cons, setsE_nil, List.set_cons_zero, List.set_cons_succ, List.map_cons, List.map_nil, List.length_cons, List.length_nil, List.cons_append, List.nil_append, List.append_nil, List.replicate_succ, List.replicate_zero, Nat.zero_add, Nat.reduceAdd, Nat.reduceSub, wipeE_nil, wipeE_cons, ↓reduceIte, Bool.false_eq_true, Bool.not_true, Bool.not_false]
    (first | refine sp_seq ?_ | refine sp_set ?_ | refine sp_if ?_ | refine sp_ret ?_ | refine sp_expr ?_ | refine sp_asg ?_ | refine sp_next ?_ | refine sp_brk ?_ | refine sp_cont ?_ | refine sp_raise ?_ | refine sp_put ?_ | refine sp_retN ?_ | refine sp_par ?_ | refine sp_asgL ?_)
    try dsimp only
    (first | refine sp_seq ?_ | refine sp_set ?_ | refine sp_if ?_ | refine sp_ret ?_ | refine sp_expr ?_ | refine sp_asg ?_ | refine sp_next ?_ | refine sp_brk ?_ | refine sp_cont ?_ | refine sp_raise ?_ | refine sp_put ?_ | refine sp_retN ?_ | refine sp_par ?_ | refine sp_asgL ?_)
    try dsimp only
    conv => (arg 1; simp [okV_iD, okV_dr, okV_dPt, okV_dP, okV_dG, okV_dC, okV_dB, ix_wd, iD_def, e1', q0])
    refine rp_ok ?_
    try dsimp only
    try simp only [setsE_cons, setsE_nil, List.set_cons_zero, List.set_cons_succ, List.map_cons, List.map_nil, List.length_cons, List.length_nil, List.cons_append, List.nil_append, List.append_nil, List.replicate_succ, List.replicate_zero, Nat.zero_add, Nat.reduceAdd, Nat.reduceSub, wipeE_nil, wipeE_cons, ↓reduceIte, Bool.false_eq_true, Bool.not_true, Bool.not_false]
    by_cases c : a = 0
    · simp only [c, decide_true, if_true]
      obtain ⟨b, h2, e2, b5, g2, n2⟩ := ev_dn (k := lt) g1.st (by omega) l1 (by omega)
      obtain ⟨c, ix, c1, c2⟩ := azm (h := h2) (b := b) (by omega)
      (first | refine sp_seq ?_ | refine sp_set ?_ | refine sp_if ?_ | refine sp_ret ?_ | refine sp_expr ?_ | refine sp_asg ?_ | refine sp_next ?_ | refine sp_brk ?_ | refine sp_cont ?_ | refine sp_raise ?_ | refine sp_put ?_ | refine sp_retN ?_ | refine sp_par ?_ | refine sp_asgL ?_)
      try dsimp only
      conv => (arg 1; simp [okV_iD, okV_dr, okV_dPt, okV_dP, okV_dG, okV_dC, okV_dB, ix_wd, iD_def, e2, ix, tupM_eq])
      refine rp_ok ?_
      try dsimp only
      try simp only [setsE_cons, setsE_nil, List.set_cons_zero, List.set_cons_succ, List.map_cons, List.map_nil, List.length_cons, List.length_nil, List.cons_append, List.nil_append, List.append_nil, List.replicate_succ, List.replicate_zero, Nat.zero_add, Nat.reduceAdd, Nat.reduceSub, wipeE_nil, wipeE_cons, ↓reduceIte, Bool.false_eq_true, Bool.not_true, Bool.not_false]
      exact tq_gw w (by omega) ((g1.trans g2).mono (by omega)) fun h3 G => ⟨[.l c], rfl, fun s hs => by rw [List.mem_singleton.mp hs]; exact ⟨c1, c2⟩, .inl ⟨c, rfl⟩, by simp, G⟩
    · simp only [c, decide_false, Bool.false_eq_true, if_false]
      obtain ⟨b, h2, e2, b5, g2, n2⟩ := ev_dn (k := 2) g1.st (by omega)
      have e2' : F__law_next [.ref 1, .int 2] h1 = .ok (iD b) h2 := e2
      have ad : addM (.int 2) (iD b) h2 = .ok (iD (b + 2)) h2 := by
        show R.ok (D.int (2 + (b : Int))) h2 = .ok (D.int ((b + 2 : Nat) : Int)) h2
        rw [Int.add_comm]
        rfl
      have G2 := g1.trans g2
      (first | refine sp_seq ?_ | refine sp_set ?_ | refine sp_if ?_ | refine sp_ret ?_ | refine sp_expr ?_ | refine sp_asg ?_ | refine sp_next ?_ | refine sp_brk ?_ | refine sp_cont ?_ | refine sp_raise ?_ | refine sp_put ?_ | refine sp_retN ?_ | refine sp_par ?_ | refine sp_asgL ?_)
      try dsimp only
      (first | refine sp_seq ?_ | refine sp_set ?_ | refine sp_if ?_ | refine sp_ret ?_ | refine sp_expr ?_ | refine sp_asg ?_ | refine sp_next ?_ | refine sp_brk ?_ | refine sp_cont ?_ | refine sp_raise ?_ | refine sp_put ?_ | refine sp_retN ?_ | refine sp_par ?_ | refine sp_asgL ?_)
      try dsimp only
      refine rp_call (rp_acons ?_)
      refine rp_lcJ (h1 := h2) (List.range (b + 2)) iD (fun t acc H => ∃ ss : List Sy, acc = ss.map dSy ∧ ss.length = t ∧ (∀ s ∈ ss, OkSy many s) ∧ Gw (n + 2 + 2 * t) h H) (rng_n (by simp [e2', ad]) (by omega)) (by simp; omega) ⟨[], rfl, rfl, fun s h => (List.not_mem_nil h).elim, G2⟩ ?_ ?_
      · rintro t x acc H ht ⟨ss, rfl, sl, so, g⟩
        obtain ⟨rfl, hi⟩ := range_at ht
        obtain ⟨s, H7, e7, os, g7⟩ := ev_law_symbol2 (many := many) (lt := lt) g.st (by omega) (by omega) (by omega) l1 l3
        refine ⟨_, rfl, rp_ok ?_⟩
        try simp only [setsE_cons, setsE_nil, List.set_cons_zero, List.set_cons_succ, List.map_cons, List.map_nil, List.length_cons, List.length_nil, List.cons_append, List.nil_append, List.append_nil, List.replicate_succ, List.replicate_zero, Nat.zero_add, Nat.reduceAdd, Nat.reduceSub, wipeE_nil, wipeE_cons, ↓reduceIte, Bool.false_eq_true, Bool.not_true, Bool.not_false]
        conv => (arg 1; simp [okV_iD, okV_dr, okV_dPt, okV_dP, okV_dG, okV_dC, okV_dB, ix_wd, iD_def, e7])
        refine rp_ok ?_
        try dsimp only
        try simp only [setsE_cons, setsE_nil, List.set_cons_zero, List.set_cons_succ, List.map_cons, List.map_nil, List.length_cons, List.length_nil, List.cons_append, List.nil_append, List.append_nil, List.replicate_succ, List.replicate_zero, Nat.zero_add, Nat.reduceAdd, Nat.reduceSub, wipeE_nil, wipeE_cons, ↓reduceIte, Bool.false_eq_true, Bool.not_true, Bool.not_false]
        exact ⟨ss ++ [s], by rw [List.map_append]; rfl, by simp [sl], fun t ht => (List.mem_append.mp ht).elim (so t) fun z => by rw [List.mem_singleton.mp z]; exact os, g.trans g7⟩
      · rintro ys H7 ⟨ss, rfl, sl, so, g⟩ k8 H8 A8 q8 l8 _
        rw [List.length_range] at sl g
        have G8 := g.trans (A8.gw g.st)
        refine rp_anil ?_
        refine rp_eq ((tupleF_ref q8)) ?_
        try dsimp only
        try simp only [setsE_cons, setsE_nil, List.set_cons_zero, List.set_cons_succ, List.map_cons, List.map_nil, List.length_cons, List.length_nil, List.cons_append, List.nil_append, List.append_nil, List.replicate_succ, List.replicate_zero, Nat.zero_add, Nat.reduceAdd, Nat.reduceSub, wipeE_nil, wipeE_cons, ↓reduceIte, Bool.false_eq_true, Bool.not_true, Bool.not_false]
        exact tq_gw w (by omega) (G8.mono (by omega)) fun h3 G => ⟨ss, rfl, so, .inr (by omega), by omega, G⟩
  obtain ⟨d, h', e, ss, rfl, o1, o2, o3, G⟩ := rp_to goal
  exact ⟨ss, h', e, o1, o2, o3, G⟩
theorem ev_law_grammar {n lt : Nat} (w : St n h) (hn : n + 130 ≤ NM) (l1 : 0 < lt) (l3 : lt ≤ 3) : ∃ gm h', F__law_grammar [.ref 1, iD lt, .int 3] h = .ok (dGm gm) h' ∧ Pg gm ∧ Gw (n + 130) h h' := by
  have goal : rp (F__law_grammar [.ref 1, iD lt, .int 3] h) (fun d H => ∃ gm, d = dGm gm ∧ Pg gm ∧ Gw (n + 130) h H) noX := by
    obtain ⟨y, h1, e1, y3, g1, n1⟩ := ev_dn (k := 3) w (by omega)
    have e1' : F__law_next [.ref 1, .int 3] h = .ok (iD y) h1 := e1
    have z1 := g1.st.lt
    unfold F__law_grammar M__law_grammar
    refine rp_def ?_
    simp only [setsE_cons, setsE_nil, List.set_cons_zero, List.set_cons_succ, List.map_cons, List.map_nil, List.length_cons, List.length_nil, List.cons_append, List.nil_append, List.append_nil, List.replicate_succ, List.replicate_zero, Nat.zero_add, Nat.reduceAdd, Nat.reduceSub, wipeE_nil, wipeE_cons, ↓reduceIte, Bool.false_eq_true, Bool.not_true, Bool.not_false]
    (first | refine sp_seq ?_ | refine sp_set ?_ | refine sp_if ?_ | refine sp_ret ?_ | refine sp_expr ?_ | refine sp_asg ?_ | refine sp_next ?_ | refine sp_brk ?_ | refine sp_cont ?_ | refine sp_raise ?_ | refine sp_put ?_ | refine sp_retN ?_ | refine sp_par ?_ | refine sp_asgL ?_)
    try dsimp only
    (first | refine sp_seq ?_ | refine sp_set ?_ | refine sp_if ?_ | refine sp_ret ?_ | refine sp_expr ?_ | refine sp_asg ?_ | refine sp_next ?_ | refine sp_brk ?_ | refine sp_cont ?_ | refine sp_raise ?_ | refine sp_put ?_ | refine sp_retN ?_ | refine sp_par ?_ | refine sp_asgL ?_)
    try dsimp only
    conv => (arg 1; simp [okV_iD, okV_dr, okV_dPt, okV_dP, okV_dG, okV_dC, okV_dB, ix_wd, iD_def, e1', one_add])
    refine rp_ok ?_
    try dsimp only
    try simp only [setsE_cons, setsE_nil, List.set_cons_zero, List.set_cons_succ, List.map_cons, List.map_nil, List.length_cons, List.length_nil, List.cons_append, List.nil_append, List.append_nil, List.replicate_succ, List.replicate_zero, Nat.zero_add, Nat.reduceAdd, Nat.reduceSub, wipeE_nil, wipeE_cons, ↓reduceIte, Bool.false_eq_true, Bool.not_true, Bool.not_false]
    (first | refine sp_seq ?_ | refine sp_set ?_ | refine sp_if ?_ | refine sp_ret ?_ | refine sp_expr ?_ | refine sp_asg ?_ | refine sp_next ?_ | refine sp_brk ?_ | refine sp_cont ?_ | refine sp_raise ?_ | refine sp_put ?_ | refine sp_retN ?_ | refine sp_par ?_ | refine sp_asgL ?_)
    try dsimp only
    (first | refine sp_seq ?_ | refine sp_set ?_ | refine sp_if ?_ | refine sp_ret ?_ | refine sp_expr ?_ | refine sp_asg ?_ | refine sp_next ?_ | refine sp_brk ?_ | refine sp_cont ?_ | refine sp_raise ?_ | refine sp_put ?_ | refine sp_retN ?_ | refine sp_par ?_ | refine sp_asgL ?_)
    try dsimp only
    refine rp_lst (rp_anil ⟨by simp, ?_⟩)
    intro k2 h2 A2 q2 l2 _
    have G2 := g1.trans (A2.gw g1.st)
    try simp only [setsE_cons, setsE_nil, List.set_cons_zero, List.set_cons_succ, List.map_cons, List.map_nil, List.length_cons, List.length_nil, List.cons_append, List.nil_append, List.append_nil, List.replicate_succ, List.replicate_zero, Nat.zero_add, Nat.reduceAdd, Nat.reduceSub, wipeE_nil, wipeE_cons, ↓reduceIte, Bool.false_eq_true, Bool.not_true, Bool.not_false]
    (first | refine sp_seq ?_ | refine sp_set ?_ | refine sp_if ?_ | refine sp_ret ?_ | refine sp_expr ?_ | refine sp_asg ?_ | refine sp_next ?_ | refine sp_brk ?_ | refine sp_cont ?_ | refine sp_raise ?_ | refine sp_put ?_ | refine sp_retN ?_ | refine sp_par ?_ | refine sp_asgL ?_)
    try dsimp only
    refine sp_forR (h1 := h2) [5, 6, 7] (y + 1) (fun i vs H => ∃ (gm : Gm) (x3 x4 x5 : Option D), vs = [x3, x4, x5] ∧ H[k2]? = some (.lst (gm.map dRs)) ∧ gm.length = i ∧ (∀ rs ∈ gm, OkRs (y + 1) rs ∧ rs.length ≤ 3 ∧ nS rs ≤ 9 ∧ ∀ r ∈ rs, r.2.length ≤ 3 ∧ PlS r.2 ∧ ∃ n : Nat, n ≤ 60 ∧ r.1 = wR n) ∧ Gw (n + 1 + 33 * i) h H) (vs := [none, none, none]) (by simp [okV_iD]) (by omega) rfl ⟨[], _, _, _, rfl, q2, rfl, fun r h => (List.not_mem_nil h).elim, G2⟩ ?_ ?_
    · rintro i vs H hi ⟨gm, x3, x4, x5, rfl, qk, gl, go, G⟩
      refine ⟨_, rfl, ?_⟩
      have zk := (List.getElem?_eq_some_iff.mp qk).1
      try simp only [setsE_cons, setsE_nil, List.set_cons_zero, List.set_cons_succ, List.map_cons, List.map_nil, List.length_cons, List.length_nil, List.cons_append, List.nil_append, List.append_nil, List.replicate_succ, List.replicate_zero, Nat.zero_add, Nat.reduceAdd, Nat.reduceSub, wipeE_nil, wipeE_cons, ↓reduceIte, Bool.false_eq_true, Bool.not_true, Bool.not_false]
      (first | refine sp_seq ?_ | refine sp_set ?_ | refine sp_if ?_ | refine sp_ret ?_ | refine sp_expr ?_ | refine sp_asg ?_ | refine sp_next ?_ | refine sp_brk ?_ | refine sp_cont ?_ | refine sp_raise ?_ | refine sp_put ?_ | refine sp_retN ?_ | refine sp_par ?_ | refine sp_asgL ?_)
      try dsimp only
      (first | refine sp_seq ?_ | refine sp_set ?_ | refine sp_if ?_ | refine sp_ret ?_ | refine sp_expr ?_ | refine sp_asg ?_ | refine sp_next ?_ | refine sp_brk ?_ | refine sp_cont ?_ | refine sp_raise ?_ | refine sp_put ?_ | refine sp_retN ?_ | refine sp_par ?_ | refine sp_asgL ?_)
      try dsimp only
      refine rp_lst (rp_anil ⟨by simp, ?_⟩)
      intro k4 H2 A4 q4 l4 _
      have G4 := G.trans (A4.gw G.st)
      try simp only [setsE_cons, setsE_nil, List.set_cons_zero, List.set_cons_succ, List.map_cons, List.map_nil, List.length_cons, List.length_nil, List.cons_append, List.nil_append, List.append_nil, List.replicate_succ, List.replicate_zero, Nat.zero_add, Nat.reduceAdd, Nat.reduceSub, wipeE_nil, wipeE_cons, ↓reduceIte, Bool.false_eq_true, Bool.not_true, Bool.not_false]
      (first | refine sp_seq ?_ | refine sp_set ?_ | refine sp_if ?_ | refine sp_ret ?_ | refine sp_expr ?_ | refine sp_asg ?_ | refine sp_next ?_ | refine sp_brk ?_ | refine sp_cont ?_ | refine sp_raise ?_ | refine sp_put ?_ | refine sp_retN ?_ | refine sp_par ?_ | refine sp_asgL ?_)
      try dsimp only
      obtain ⟨m, H3, e3, m3, g3, n3⟩ := ev_dn (k := 3) G4.st (by omega)
      have e3' : F__law_next [.ref 1, .int 3] H2 = .ok (iD m) H3 := e3
      obtain ⟨ws, q, H4, e4, hq, qq, wl, ww, wS, g4⟩ := ev_law_chances (m := m + 1) g3.st (by omega) (by omega) (by omega)
      have e4' : F__law_chances [.ref 1, iD (m + 1)] H3 = .ok (.ref q) H4 := e4
      have G5 := (G4.trans g3).trans g4
      have q4' := (g3.trans g4).get q4 (by omega)
      have qk' := ((A4.gw G.st).trans (g3.trans g4)).get qk (by omega)
      have qk4 : q ≠ k4 := by
        rintro rfl
        rw [q4'] at hq
        have := congrArg (fun o : Option IO => match o with | some (.lst xs) => xs.length | _ => 0) hq
        simp at this
        omega
      refine sp_forV (h1 := H4) (v := viewL q) [7] ws d60 (fun j vs K => ∃ (rs : List Ru) (x5 : Option D), vs = [x5] ∧ K[k4]? = some (.lst (rs.map dRu)) ∧ rs.map (·.1) = (ws.take j).map wR ∧ (∀ r ∈ rs, r.2.length ≤ 3 ∧ PlS r.2 ∧ ∀ s ∈ r.2, OkSy (y + 1) s) ∧ Gw (n + 1 + 33 * i + 5 + 8 * j) h K ∧ K[q]? = some (.lst (ws.map d60)) ∧ K[k2]? = some (.lst (gm.map dRs))) (vs := [x5]) (by simp [e3', one_add, e4', srcOf_ref hq]) (by omega) rfl ⟨[], _, rfl, q4', by simp, fun r h => (List.not_mem_nil h).elim, G5, hq, qk'⟩ ?_ ?_ ?_
      · rintro j vs K ⟨rs, x5, rfl, _, _, _, _, hv, _⟩
        exact viewL_eq hv
      · rintro j wgt vs K hj ⟨rs, x5, rfl, r4, rw1, ro, GK, hv, hk2⟩
        refine ⟨_, rfl, ?_⟩
        have jl := (List.getElem?_eq_some_iff.mp hj).1
        have rl : rs.length = j := by
          have := congrArg List.length rw1
          rw [List.length_map, List.length_map, List.length_take] at this
          omega
        have zK := GK.st.lt
        have o6 : ∀ K : IH, okV K (d60 wgt) = .ok (d60 wgt) K := fun _ => rfl
        obtain ⟨ss, H8, e8, so, sp8, sl8, g8⟩ := ev_law_plain_symbols (many := y + 1) (lt := lt) GK.st (by omega) (by omega) (by omega) l1 l3
        try simp only [setsE_cons, setsE_nil, List.set_cons_zero, List.set_cons_succ, List.map_cons, List.map_nil, List.length_cons, List.length_nil, List.cons_append, List.nil_append, List.append_nil, List.replicate_succ, List.replicate_zero, Nat.zero_add, Nat.reduceAdd, Nat.reduceSub, wipeE_nil, wipeE_cons, ↓reduceIte, Bool.false_eq_true, Bool.not_true, Bool.not_false]
        (first | refine sp_seq ?_ | refine sp_set ?_ | refine sp_if ?_ | refine sp_ret ?_ | refine sp_expr ?_ | refine sp_asg ?_ | refine sp_next ?_ | refine sp_brk ?_ | refine sp_cont ?_ | refine sp_raise ?_ | refine sp_put ?_ | refine sp_retN ?_ | refine sp_par ?_ | refine sp_asgL ?_)
        try dsimp only
        refine rp_meth (k := k4) ?_
        conv => (arg 1; simp [okV_iD, okV_dr, okV_dPt, okV_dP, okV_dG, okV_dC, okV_dB, ix_wd, iD_def])
        refine rp_ok ?_
        try dsimp only
        try simp only [setsE_cons, setsE_nil, List.set_cons_zero, List.set_cons_succ, List.map_cons, List.map_nil, List.length_cons, List.length_nil, List.cons_append, List.nil_append, List.append_nil, List.replicate_succ, List.replicate_zero, Nat.zero_add, Nat.reduceAdd, Nat.reduceSub, wipeE_nil, wipeE_cons, ↓reduceIte, Bool.false_eq_true, Bool.not_true, Bool.not_false]
        refine ⟨_, lisOf_ref r4, rp_acons (rp_tup (rp_acons ?_))⟩
        conv => (arg 1; simp [okV_iD, okV_dr, okV_dPt, okV_dP, okV_dG, okV_dC, okV_dB, ix_wd, iD_def, o6])
        refine rp_ok ?_
        try dsimp only
        try simp only [setsE_cons, setsE_nil, List.set_cons_zero, List.set_cons_succ, List.map_cons, List.map_nil, List.length_cons, List.length_nil, List.cons_append, List.nil_append, List.append_nil, List.replicate_succ, List.replicate_zero, Nat.zero_add, Nat.reduceAdd, Nat.reduceSub, wipeE_nil, wipeE_cons, ↓reduceIte, Bool.false_eq_true, Bool.not_true, Bool.not_false]
        refine rp_acons ?_
        conv => (arg 1; simp [okV_iD, okV_dr, okV_dPt, okV_dP, okV_dG, okV_dC, okV_dB, ix_wd, iD_def, e8])
        refine rp_ok ?_
        try dsimp only
        try simp only [setsE_cons, setsE_nil, List.set_cons_zero, List.set_cons_succ, List.map_cons, List.map_nil, List.length_cons, List.length_nil, List.cons_append, List.nil_append, List.append_nil, List.replicate_succ, List.replicate_zero, Nat.zero_add, Nat.reduceAdd, Nat.reduceSub, wipeE_nil, wipeE_cons, ↓reduceIte, Bool.false_eq_true, Bool.not_true, Bool.not_false]
        refine rp_anil ⟨by simp, rp_anil ?_⟩
        have r8 := g8.get r4 (by omega)
        refine rp_append r8 (by rw [List.length_map]; omega) fun H9 U q9 => ?_
        have K9 := U.gw (GK.trans g8) (by omega) (by omega)
        refine turn_next (vs := [_]) rfl ⟨rs ++ [(wR wgt, ss)], _, rfl, ?_, ?_, ?_, K9.mono (by omega), U.get (g8.get hv (by omega)) qk4, U.get (g8.get hk2 (by omega)) (by omega)⟩
        · rw [q9, List.map_append]
          rfl
        · rw [List.map_append, rw1, List.take_add_one, hj, List.map_append]
          rfl
        · intro r hr
          rcases List.mem_append.mp hr with hr | hr
          · exact ro r hr
          · rw [List.mem_singleton.mp hr]
            exact ⟨sl8, sp8, so⟩
      · rintro vs K ⟨rs, x5, rfl, r4, rw1, ro, GK, hv, hk2⟩
        rw [List.take_length] at rw1
        have rl : rs.length = ws.length := by
          have := congrArg List.length rw1
          rw [List.length_map, List.length_map] at this
          exact this
        try simp only [setsE_cons, setsE_nil, List.set_cons_zero, List.set_cons_succ, List.map_cons, List.map_nil, List.length_cons, List.length_nil, List.cons_append, List.nil_append, List.append_nil, List.replicate_succ, List.replicate_zero, Nat.zero_add, Nat.reduceAdd, Nat.reduceSub, wipeE_nil, wipeE_cons, ↓reduceIte, Bool.false_eq_true, Bool.not_true, Bool.not_false]
        (first | refine sp_seq ?_ | refine sp_set ?_ | refine sp_if ?_ | refine sp_ret ?_ | refine sp_expr ?_ | refine sp_asg ?_ | refine sp_next ?_ | refine sp_brk ?_ | refine sp_cont ?_ | refine sp_raise ?_ | refine sp_put ?_ | refine sp_retN ?_ | refine sp_par ?_ | refine sp_asgL ?_)
        try dsimp only
        refine rp_meth (k := k2) ?_
        conv => (arg 1; simp [okV_iD, okV_dr, okV_dPt, okV_dP, okV_dG, okV_dC, okV_dB, ix_wd, iD_def])
        refine rp_ok ?_
        try dsimp only
        try simp only [setsE_cons, setsE_nil, List.set_cons_zero, List.set_cons_succ, List.map_cons, List.map_nil, List.length_cons, List.length_nil, List.cons_append, List.nil_append, List.append_nil, List.replicate_succ, List.replicate_zero, Nat.zero_add, Nat.reduceAdd, Nat.reduceSub, wipeE_nil, wipeE_cons, ↓reduceIte, Bool.false_eq_true, Bool.not_true, Bool.not_false]
        refine ⟨_, lisOf_ref hk2, rp_acons ?_⟩
        conv => (arg 1; simp [okV_iD, okV_dr, okV_dPt, okV_dP, okV_dG, okV_dC, okV_dB, ix_wd, iD_def, tupleF_ref r4])
        refine rp_ok ?_
        try dsimp only
        try simp only [setsE_cons, setsE_nil, List.set_cons_zero, List.set_cons_succ, List.map_cons, List.map_nil, List.length_cons, List.length_nil, List.cons_append, List.nil_append, List.append_nil, List.replicate_succ, List.replicate_zero, Nat.zero_add, Nat.reduceAdd, Nat.reduceSub, wipeE_nil, wipeE_cons, ↓reduceIte, Bool.false_eq_true, Bool.not_true, Bool.not_false]
        refine rp_anil ?_
        refine rp_append hk2 (by rw [List.length_map]; omega) fun H9 U q9 => ?_
        have zK := GK.st.lt
        have K9 := U.gw GK (by omega) (by omega)
        refine turn_next (vs := [_, _, _]) rfl ⟨gm ++ [rs], _, _, _, rfl, ?_, by simp [gl], ?_, K9.mono (by omega)⟩
        · rw [q9, List.map_append]
          rfl
        · intro r hr
          rcases List.mem_append.mp hr with hr | hr
          · exact go r hr
          · rw [List.mem_singleton.mp hr]
            have n9 : nS rs ≤ 9 := by
              have := sum_le (k := 3) (f := fun r : Ru => r.2.length) (xs := rs) fun r hr => (ro r hr).1
              unfold nS
              omega
            have inw : ∀ r ∈ rs, ∃ w ∈ ws, wR w = r.1 := fun r hr => by
              have m : r.1 ∈ ws.map wR := by
                rw [← rw1]
                exact List.mem_map_of_mem hr
              obtain ⟨w, hw, e⟩ := List.mem_map.mp m
              exact ⟨w, hw, e⟩
            refine ⟨⟨by omega, by omega, fun r hr => ⟨?_, by have := (ro r hr).1; omega, (ro r hr).2.2⟩, ?_, by omega⟩, by omega, n9, fun r hr => ⟨(ro r hr).1, (ro r hr).2.1, ?_⟩⟩
            · obtain ⟨w, hw, e⟩ := inw r hr
              have b := ww w hw
              have c := ok60_fin ⟨w, by omega⟩ b.1
              rw [← e]
              exact c
            · unfold sumQ
              rw [rw1, sum_wR, wS]
              decide +kernel
            · obtain ⟨w, hw, e⟩ := inw r hr
              exact ⟨w, (ww w hw).2, e.symm⟩
    · rintro vs H ⟨gm, x3, x4, x5, rfl, qk, gl, go, G⟩
      try simp only [setsE_cons, setsE_nil, List.set_cons_zero, List.set_cons_succ, List.map_cons, List.map_nil, List.length_cons, List.length_nil, List.cons_append, List.nil_append, List.append_nil, List.replicate_succ, List.replicate_zero, Nat.zero_add, Nat.reduceAdd, Nat.reduceSub, wipeE_nil, wipeE_cons, ↓reduceIte, Bool.false_eq_true, Bool.not_true, Bool.not_false]
      (first | refine sp_seq ?_ | refine sp_set ?_ | refine sp_if ?_ | refine sp_ret ?_ | refine sp_expr ?_ | refine sp_asg ?_ | refine sp_next ?_ | refine sp_brk ?_ | refine sp_cont ?_ | refine sp_raise ?_ | refine sp_put ?_ | refine sp_retN ?_ | refine sp_par ?_ | refine sp_asgL ?_)
      try dsimp only
      conv => (arg 1; simp [okV_iD, okV_dr, okV_dPt, okV_dP, okV_dG, okV_dC, okV_dB, ix_wd, iD_def, tupleF_ref qk])
      refine rp_ok ?_
      try dsimp only
      try simp only [setsE_cons, setsE_nil, List.set_cons_zero, List.set_cons_succ, List.map_cons, List.map_nil, List.length_cons, List.length_nil, List.cons_append, List.nil_append, List.append_nil, List.replicate_succ, List.replicate_zero, Nat.zero_add, Nat.reduceAdd, Nat.reduceSub, wipeE_nil, wipeE_cons, ↓reduceIte, Bool.false_eq_true, Bool.not_true, Bool.not_false]
      exact tq_gw w (by omega) (G.mono (by omega)) fun h3 G => ⟨gm, rfl, ⟨⟨by omega, by omega, fun rs hr => by rw [gl]; exact (go rs hr).1, by
        have := sum_le (k := 3) (f := fun rs : List Ru => rs.length) (xs := gm) fun rs hr => (go rs hr).2.1
        omega, by
        have := sum_le (k := 9) (f := nS) (xs := gm) fun rs hr => (go rs hr).2.2.1
        omega⟩, by omega, fun rs hr => (go rs hr).2.1, fun rs hr r h => ((go rs hr).2.2.2 r h).1, fun rs hr r h => ((go rs hr).2.2.2 r h).2.1, fun rs hr r h => ((go rs hr).2.2.2 r h).2.2⟩, G⟩
  obtain ⟨d, h', e, gm, rfl, o, G⟩ := rp_to goal
  exact ⟨gm, h', e, o, G⟩
end
end Zc
/-! G23R: how many derivations there are, and the sizes of their chances. -/
namespace Zc
open PySem L2 Z Q
section
variable {gm : Gm} {f : Sy → Nat → List Dv} {L K : Nat} {ss : List Sy} {s : Sy} {n : Nat}
abbrev Uf (i : Nat) (x : Rat) : Prop := Fr i (2520 ^ i) x
theorem Uf.mul {i j : Nat} {x y : Rat} (a : Uf i x) (b : Uf j y) : Uf (i + j) (x * y) := by
  have := Fr.mul a b
  rwa [← Nat.pow_add] at this
theorem Uf.to {i j : Nat} {x : Rat} (a : Uf i x) (h : i ≤ j) : Uf j x := by
  have := Fr.up (j - i) a
  rwa [← Nat.pow_add, show i + (j - i) = j by omega] at this
theorem Uf.one {i : Nat} : Uf i 1 := Fr.one (Nat.le_refl _)
theorem Uf.rb {i : Nat} {x : Rat} (a : Uf i x) (h : i ≤ 19) : RB 400 x := FrB.rb4 (a.mono (p_le_bn i)) h
/-- the sizes of f -/
def SzT (f : Sy → Nat → List Dv) : Prop := ∀ s M, ∀ t ∈ f s M, Uf (2 * t.2.1.length - 1) t.1
theorem rwD_sz (w : WdOk f) (z : SzT f) : ∀ (ss : List Sy) (L : Nat), ss.length ≤ L → ∀ d ∈ rwD f ss L, Uf (2 * d.2.1.length - ss.length) d.1
  | [], L, _, d, hd => by
    have : d = oneD := by simpa [rwD] using hd
    rw [this]
    exact Uf.one
  | s :: ss, L, hl, d, hd => by
    rw [List.length_cons] at hl
    obtain ⟨t, ht, hd⟩ := List.mem_flatMap.mp hd
    obtain ⟨r, hr, rfl⟩ := List.mem_map.mp hd
    have h1 := w s _ t ht
    have h2 := rwD_len w ss (L - t.2.1.length) (by omega) r hr
    have u1 := z s _ t ht
    have u2 := rwD_sz w z ss (L - t.2.1.length) (by omega) r hr
    show Uf (2 * (t.2.1 ++ r.2.1).length - (s :: ss).length) (t.1 * r.1)
    rw [List.length_append, List.length_cons]
    exact (u1.mul u2).to (by omega)
theorem rwD_let {c : Nat} {L n : Nat} (hL : 1 ≤ L) : rwD (trD gm n) [.l c] L = [(1, [c], [])] := by
  have w' : ∀ t : Dv, mulD t oneD = t := fun a => by unfold mulD oneD; simp [Rat.mul_one]
  show ((trD gm n (.l c) (L - 0)).flatMap fun t => [mulD t oneD]) = _
  rw [show ((trD gm n (.l c) (L - 0)).flatMap fun t => [mulD t oneD]) = trD gm n (.l c) L by simp [w']]
  cases n <;> (unfold trD; rw [if_pos (by omega)])
theorem trD_let {c : Nat} {L n : Nat} : trD gm n (.l c) L = if 0 < L then [(1, [c], [])] else [] := by cases n <;> rfl
theorem trD_sz (pg : Pg gm) : ∀ n, SzT (trD gm n)
  | n, .l c, M, t, ht => by
    rw [trD_let] at ht
    split at ht
    · have : t = (1, [c], []) := by simpa using ht
      rw [this]
      exact Uf.one
    · cases ht
  | 0, .v k, M, t, ht => by cases ht
  | n + 1, .v k, M, t, ht => by
    unfold trD at ht
    obtain ⟨r, hr, ht⟩ := List.mem_flatMap.mp ht
    have hm := List.mem_zipIdx' (x := r.1) (i := r.2) hr
    have hr1 : r.1 ∈ gm.getD k [] := by rw [hm.2]; exact List.getElem_mem _
    obtain ⟨rs, h1, h2, _⟩ := getD_mem hr1
    obtain ⟨w, hw, e⟩ := pg.c60 rs h1 r.1 h2
    split at ht
    · rename_i c
      obtain ⟨d, hd, rfl⟩ := List.mem_map.mp ht
      show Uf (2 * d.2.1.length - 1) (r.1.1 * d.1)
      rw [e]
      rcases pg.pl rs h1 r.1 h2 with ⟨x, hx⟩ | p
      · rw [hx] at hd c
        rw [rwD_let (by simpa using c)] at hd
        have : d = (1, [x], []) := by simpa using hd
        rw [this]
        exact (Uf.mul (fr_wR hw) (Uf.one (i := 0))).to (by simp)
      · have l := rwD_len (trD_ok pg n) r.1.2 M c d hd
        exact (Uf.mul (fr_wR hw) (rwD_sz (trD_ok pg n) (trD_sz pg n) r.1.2 M c d hd)).to (by omega)
    · cases ht
/-! ### how many -/
def wt (K : Nat) (ds : List Dv) : Nat := (ds.map fun d => 9 ^ (K - d.2.1.length)).sum
theorem wt_nil : wt K [] = 0 := rfl
theorem wt_cons {d : Dv} {ds : List Dv} : wt K (d :: ds) = 9 ^ (K - d.2.1.length) + wt K ds := by simp [wt]
theorem wt_app {ds es : List Dv} : wt K (ds ++ es) = wt K ds + wt K es := by simp [wt]
theorem wt_len : ∀ {ds : List Dv}, ds.length ≤ wt K ds
  | [] => Nat.zero_le _
  | d :: ds => by
    rw [wt_cons, List.length_cons]
    have := wt_len (ds := ds)
    have : 0 < 9 ^ (K - d.2.1.length) := Nat.pow_pos (by decide)
    omega
theorem wt_mul {a : Dv} : ∀ {ds : List Dv}, wt K (ds.map (mulD a)) = wt (K - a.2.1.length) ds
  | [] => rfl
  | d :: ds => by
    rw [List.map_cons, wt_cons, wt_cons, wt_mul]
    show 9 ^ (K - (a.2.1 ++ d.2.1).length) + _ = _
    rw [List.length_append, show K - (a.2.1.length + d.2.1.length) = K - a.2.1.length - d.2.1.length by omega]
/-- f makes few -/
def WtOk (f : Sy → Nat → List Dv) : Prop := ∀ s M K, 1 ≤ M → M ≤ K → 3 * wt K (f s M) ≤ 9 ^ K
/-- one symbol more -/
def stepR (f : Sy → Nat → List Dv) (L : Nat) (s : Sy) (rest : Nat) (acc : List Dv) : List Dv := acc.flatMap fun a => (f s (L - a.2.1.length - rest)).map (mulD a)
theorem rwF_cons {acc : List Dv} : rwF f L (s :: ss) acc = rwF f L ss (stepR f L s ss.length acc) := rfl
theorem stepR_wt (w : WtOk f) {rest : Nat} (hK : L ≤ K) : ∀ {acc : List Dv}, (∀ a ∈ acc, a.2.1.length + rest + 1 ≤ L) → 3 * wt K (stepR f L s rest acc) ≤ wt K acc
  | [], _ => by show 3 * 0 ≤ _; omega
  | a :: acc, h => by
    have ih := stepR_wt w hK (rest := rest) (acc := acc) fun b hb => h b (List.mem_cons_of_mem _ hb)
    have h1 := h a List.mem_cons_self
    have h2 := w s (L - a.2.1.length - rest) (K - a.2.1.length) (by omega) (by omega)
    show 3 * wt K ((f s (L - a.2.1.length - rest)).map (mulD a) ++ stepR f L s rest acc) ≤ _
    rw [wt_app, wt_mul, wt_cons]
    omega
/-- what holds of the parts of rows -/
structure PaOk (L i rest : Nat) (acc : List Dv) : Prop where
  lo : ∀ a ∈ acc, i ≤ a.2.1.length
  hi : ∀ a ∈ acc, a.2.1.length + rest ≤ L
  sz : ∀ a ∈ acc, Uf (2 * a.2.1.length) a.1
  wt : wt L acc ≤ 9 ^ L
theorem PaOk.one {rest : Nat} (h : rest ≤ L) : PaOk L 0 rest [oneD] := ⟨fun _ _ => Nat.zero_le _, fun a ha => by rw [List.mem_singleton.mp ha]; simpa [oneD] using h, fun a ha => by rw [List.mem_singleton.mp ha]; exact Uf.one, by rw [wt_cons]; show 9 ^ (L - 0) + 0 ≤ _; exact Nat.le_refl _⟩
theorem PaOk.step {i rest : Nat} {acc : List Dv} (p : PaOk L i (rest + 1) acc) (w : WdOk f) (z : SzT f) (g : WtOk f) : PaOk L (i + 1) rest (stepR f L s rest acc) := by
  have mem : ∀ x ∈ stepR f L s rest acc, ∃ a ∈ acc, ∃ t ∈ f s (L - a.2.1.length - rest), x = mulD a t := fun x hx => by
    obtain ⟨a, ha, hx⟩ := List.mem_flatMap.mp hx
    obtain ⟨t, ht, rfl⟩ := List.mem_map.mp hx
    exact ⟨a, ha, t, ht, rfl⟩
  refine ⟨fun x hx => ?_, fun x hx => ?_, fun x hx => ?_, ?_⟩
  · obtain ⟨a, ha, t, ht, rfl⟩ := mem x hx
    have := p.lo a ha
    have := w s _ t ht
    show _ ≤ (a.2.1 ++ t.2.1).length
    rw [List.length_append]
    omega
  · obtain ⟨a, ha, t, ht, rfl⟩ := mem x hx
    have := p.hi a ha
    have := w s _ t ht
    show (a.2.1 ++ t.2.1).length + _ ≤ _
    rw [List.length_append]
    omega
  · obtain ⟨a, ha, t, ht, rfl⟩ := mem x hx
    have h1 := p.sz a ha
    have h2 := z s _ t ht
    have := w s _ t ht
    show Uf (2 * (a.2.1 ++ t.2.1).length) (a.1 * t.1)
    rw [List.length_append]
    exact (h1.mul h2).to (by omega)
  · have := stepR_wt (s := s) g (Nat.le_refl L) (rest := rest) (acc := acc) fun a ha => by have := p.hi a ha; omega
    have := p.wt
    omega
theorem rwD_wt (w : WdOk f) (g : WtOk f) : ∀ (ss : List Sy) (L K : Nat), ss.length ≤ L → L ≤ K → 3 ^ ss.length * wt K (rwD f ss L) ≤ 9 ^ K
  | [], L, K, _, _ => by
    show 3 ^ 0 * wt K [oneD] ≤ _
    rw [wt_cons, wt_nil]
    show 1 * (9 ^ (K - 0) + 0) ≤ _
    rw [Nat.one_mul]
    exact Nat.le_refl _
  | s :: ss, L, K, hl, hK => by
    rw [List.length_cons] at hl ⊢
    show 3 ^ (ss.length + 1) * wt K ((f s (L - ss.length)).flatMap fun t => (rwD f ss (L - t.2.1.length)).map (mulD t)) ≤ _
    have key : ∀ ts : List Dv, (∀ t ∈ ts, 1 ≤ t.2.1.length ∧ t.2.1.length ≤ L - ss.length) → 3 ^ ss.length * wt K (ts.flatMap fun t => (rwD f ss (L - t.2.1.length)).map (mulD t)) ≤ wt K ts := fun ts => by
      induction ts with
      | nil => intro _; exact Nat.le_refl _
      | cons t ts ih =>
        intro h
        have h1 := h t List.mem_cons_self
        have h2 := rwD_wt w g ss (L - t.2.1.length) (K - t.2.1.length) (by omega) (by omega)
        have h3 := ih fun x hx => h x (List.mem_cons_of_mem _ hx)
        rw [List.flatMap_cons, wt_app, wt_mul, wt_cons, Nat.mul_add]
        omega
    have k := key _ fun t ht => w s _ t ht
    have a := g s (L - ss.length) K (by omega) (by omega)
    rw [Nat.pow_succ, Nat.mul_comm (3 ^ ss.length) 3, Nat.mul_assoc]
    omega
theorem wt_rule {x : Rat} {k j : Nat} : ∀ {ds : List Dv}, wt K (ds.map fun d => (x * d.1, d.2.1, (k, j) :: d.2.2)) = wt K ds
  | [] => rfl
  | d :: ds => by rw [List.map_cons, wt_cons, wt_cons, wt_rule]
theorem trD_wt (pg : Pg gm) : ∀ n, WtOk (trD gm n)
  | n, .l c, M, K, h1, h2 => by
    rw [trD_let, if_pos (by omega), wt_cons, wt_nil]
    show 3 * (9 ^ (K - 1) + 0) ≤ _
    obtain ⟨K, rfl⟩ : ∃ j, K = j + 1 := ⟨K - 1, by omega⟩
    rw [Nat.add_sub_cancel, Nat.pow_succ]
    omega
  | 0, .v k, M, K, h1, h2 => Nat.zero_le _
  | n + 1, .v k, M, K, h1, h2 => by
    unfold trD
    have key : ∀ (rs : List Ru) (j : Nat), (∀ r ∈ rs, r ∈ gm.getD k []) → 9 * wt K ((rs.zipIdx j).flatMap fun r => if r.1.2.length ≤ M then (rwD (trD gm n) r.1.2 M).map fun d => (r.1.1 * d.1, d.2.1, (k, r.2) :: d.2.2) else []) ≤ rs.length * 9 ^ K := fun rs => by
      induction rs with
      | nil => intro j _; exact Nat.zero_le _
      | cons r rs ih =>
        intro j h
        have i := ih (j + 1) fun x hx => h x (List.mem_cons_of_mem _ hx)
        rw [List.zipIdx_cons, List.flatMap_cons, wt_app, Nat.mul_add, List.length_cons, Nat.add_mul, Nat.one_mul, Nat.add_comm]
        refine Nat.add_le_add i ?_
        obtain ⟨qs, g1, g2, _⟩ := getD_mem (h r List.mem_cons_self)
        show 9 * wt K (if r.2.length ≤ M then (rwD (trD gm n) r.2 M).map fun d => (r.1 * d.1, d.2.1, (k, j) :: d.2.2) else []) ≤ _
        split
        · rename_i c
          rw [wt_rule]
          rcases pg.pl qs g1 r g2 with ⟨x, hx⟩ | p
          · rw [hx, rwD_let h1, wt_cons, wt_nil]
            show 9 * (9 ^ (K - 1) + 0) ≤ _
            obtain ⟨K, rfl⟩ : ∃ j, K = j + 1 := ⟨K - 1, by omega⟩
            rw [Nat.add_sub_cancel, Nat.pow_succ]
            omega
          · have a := rwD_wt (trD_ok pg n) (trD_wt pg n) r.2 M K c h2
            have b : 3 ^ 2 ≤ 3 ^ r.2.length := Nat.pow_le_pow_right (by decide) p
            exact Nat.le_trans (Nat.mul_le_mul_right _ b) a
        · exact Nat.zero_le _
    have a := key (gm.getD k []) 0 fun _ h => h
    have l : (gm.getD k []).length ≤ 3 := by
      cases e : gm[k]? with
      | none => simp [List.getD, e]
      | some rs =>
        simp only [List.getD, e, Option.getD_some]
        exact pg.r3 rs (List.mem_of_getElem? e)
    have b := Nat.mul_le_mul_right (9 ^ K) l
    omega
end
end Zc
/-! G23B: the law's derivations. -/
namespace Zc
open PySem L2 Z Q
/-- a word -/
def wS (u : List Nat) : Str := ⟨u.toArray⟩
theorem wS_len {u : List Nat} : (wS u).length = u.length := by simp [wS, Str.length]
theorem wS_app {u v : List Nat} : wS u ++ wS v = wS (u ++ v) := by
  show Str.mk (u.toArray ++ v.toArray) = Str.mk (u ++ v).toArray
  rw [List.append_toArray]
theorem wS_inj {u v : List Nat} : wS u = wS v ↔ u = v := by
  unfold wS
  constructor
  · intro h
    have := congrArg (fun z : Str => z.cps.toList) h
    simpa using this
  · rintro rfl
    rfl
/-- a derivation whose outline stands at o -/
def dT (p : Dv × Nat) : D := .tup [dr p.1.1, .str (wS p.1.2.1), .ref p.2]
structure isT (h : IH) (k : Nat) (ds : List Dv) (ps : List (Dv × Nat)) : Prop where
  fst : ps.map (·.1) = ds
  lst : h[k]? = some (.lst (ps.map dT))
  out : ∀ p ∈ ps, h[p.2]? = some (.lst (p.1.2.2.map dC))
theorem isT.ap {h h' : IH} {k : Nat} {ds : List Dv} {ps : List (Dv × Nat)} (t : isT h k ds ps) (a : Ap h h') : isT h' k ds ps := ⟨t.fst, a.get t.lst, fun p hp => a.get (t.out p hp)⟩
theorem isT.len {h : IH} {k : Nat} {ds : List Dv} {ps : List (Dv × Nat)} (t : isT h k ds ps) : ps.length = ds.length := by rw [← t.fst, List.length_map]
/-- all stands but the object at k -/
structure Ax (k : Nat) (h h' : IH) : Prop where
  len : h.length ≤ h'.length
  keep : ∀ i, i ≠ k → i < h.length → h'[i]? = h[i]?
section
variable {h h' h'' : IH} {k : Nat} {Q : D → IH → Prop} {X : Exc → IH → Prop}
theorem Ax.refl : Ax k h h := ⟨Nat.le_refl _, fun _ _ _ => rfl⟩
theorem Ax.trans (a : Ax k h h') (b : Ax k h' h'') : Ax k h h'' := ⟨Nat.le_trans a.len b.len, fun i hx hi => (b.keep i hx (Nat.lt_of_lt_of_le hi a.len)).trans (a.keep i hx hi)⟩
theorem Ax.get {i : Nat} {o : IO} (a : Ax k h h') (e : h[i]? = some o) (hx : i ≠ k) : h'[i]? = some o := (a.keep i hx (List.getElem?_eq_some_iff.mp e).1).trans e
theorem Ap.ax (a : Ap h h') : Ax k h h' := ⟨a.len, fun i _ hi => a.keep i hi⟩
theorem Up.ax (u : Up k h h') : Ax k h h' := ⟨by rw [u.len]; exact Nat.le_refl _, fun i hx _ => u.keep i hx⟩
theorem Ax.ap (a : Ax k h' h'') (b : Ap h h') (c : h.length ≤ k) : Ap h h'' := ⟨Nat.le_trans b.len a.len, fun i hi => (a.keep i (by omega) (Nat.lt_of_lt_of_le hi b.len)).trans (b.keep i hi)⟩
theorem isT.ax {x : Nat} {ds : List Dv} {ps : List (Dv × Nat)} (t : isT h k ds ps) (a : Ax x h h') (c : k ≠ x) (d : ∀ p ∈ ps, p.2 ≠ x) : isT h' k ds ps := ⟨t.fst, a.get t.lst c, fun p hp => a.get (t.out p hp) (d p hp)⟩
theorem add_lsts {a b : Nat} {xs ys : List D} (h1 : h[a]? = some (.lst xs)) (h2 : h[b]? = some (.lst ys)) (hl : xs.length + ys.length ≤ 16777216) : addM (.ref a) (.ref b) h = newL h (xs ++ ys) := by
  unfold addM
  simp only [h1, h2]
  rw [if_pos (by rw [sizeLine_is]; exact hl)]
theorem add_wS {u v : List Nat} (hl : u.length + v.length ≤ 1000) : addM (.str (wS u)) (.str (wS v)) h = .ok (.str (wS (u ++ v))) h := by
  unfold addM
  dsimp only
  rw [if_pos (by rw [sizeLine_is, wS_len, wS_len]; omega), wS_app]
theorem len_wS {u : List Nat} (hl : u.length ≤ 1000) : lenF [.str (wS u)] h = .ok (iD u.length) h := by
  show (if (wS u).length ≤ sizeLine then R.ok (D.int ((wS u).length : Int)) h else R.stuck) = _
  rw [if_pos (by rw [sizeLine_is, wS_len]; omega), wS_len]
  rfl
theorem okV_wS {u : List Nat} : okV h (.str (wS u)) = .ok (.str (wS u)) h := rfl
theorem okV_dSs {ss : List Sy} : okV h (.tup (ss.map dSy)) = .ok (.tup (ss.map dSy)) h := rfl
theorem sub_nat {a b : Nat} (hb : b ≤ a) : subM (iD a) (iD b) h = .ok (iD (a - b)) h := by
  show R.ok (D.int ((a : Int) - (b : Int))) h = .ok (D.int ((a - b : Nat) : Int)) h
  congr 2
  omega
theorem rp_rw {r r' : R D} (e : r = r') (H : rp r' Q X) : rp r Q X := by rw [e]; exact H
end
section
variable {h : IH} {gm : Gm} {f : Sy → Nat → List Dv} {L : Nat} {ss : List Sy}
theorem stepR_take {f : Sy → Nat → List Dv} {L : Nat} {s : Sy} {r n : Nat} {acc : List Dv} : (stepR f L s r (acc.take n)).length ≤ (stepR f L s r acc).length := by
  conv => rhs; rw [← List.take_append_drop n acc]
  unfold stepR
  rw [List.flatMap_append, List.length_append]
  omega
/-- what a call of trees gives -/
def GivesT (gm : Gm) (m : Nat) (s : Sy) (M : Nat) (ds : List Dv) : Prop := ∀ h, rp (F__law_trees_r m [dGm gm, dSy s, iD M] h) (fun d H => ∃ k ps, d = .ref k ∧ Ap h H ∧ h.length ≤ k ∧ isT H k ds ps ∧ ∀ p ∈ ps, h.length ≤ p.2) noX
theorem unf_rows {m : Nat} : F__law_rows_r (m + 1) = defM 14 (M__law_rows (F__law_trees_r m) (F__law_rows_r m)) := rfl
theorem unf_trees {m : Nat} : F__law_trees_r (m + 1) = defM 9 (M__law_trees (F__law_trees_r m) (F__law_rows_r m)) := rfl
theorem ev_rows {m : Nat} (w : WdOk f) (z : SzT f) (g : WtOk f) (ou : ∀ s M, ∀ t ∈ f s M, t.2.2.length ≤ 2 * t.2.1.length) (l1 : ss.length ≤ L) (l4 : ss.length ≤ 4) (L5 : L ≤ 5)
    (ht : ∀ s ∈ ss, ∀ M, 1 ≤ M → M + (ss.length - 1) ≤ L → GivesT gm m s M (f s M)) (h : IH) :
    rp (F__law_rows_r (m + 1) [dGm gm, .tup (ss.map dSy), iD L] h) (fun d H => ∃ k ps, d = .ref k ∧ Ap h H ∧ h.length ≤ k ∧ isT H k (rwD f ss L) ps ∧ ∀ p ∈ ps, h.length ≤ p.2) noX := by
  rw [unf_rows]
  unfold M__law_rows
  refine rp_def ?_
  try simp only [setsE_cons, setsE_nil, List.set_cons_zero, List.set_cons_succ, List.map_cons, List.map_nil, List.length_cons, List.length_nil, List.cons_append, List.nil_append, List.append_nil, List.replicate_succ, List.replicate_zero, Nat.zero_add, Nat.reduceAdd, Nat.reduceSub, wipeE_nil, wipeE_cons, ↓reduceIte, Bool.false_eq_true, Bool.not_true, Bool.not_false]
  (first | refine sp_seq ?_ | refine sp_set ?_ | refine sp_if ?_ | refine sp_ret ?_ | refine sp_expr ?_ | refine sp_asg ?_ | refine sp_next ?_ | refine sp_brk ?_ | refine sp_cont ?_ | refine sp_raise ?_ | refine sp_put ?_ | refine sp_retN ?_ | refine sp_par ?_ | refine sp_asgL ?_)
  try dsimp only
  (first | refine sp_seq ?_ | refine sp_set ?_ | refine sp_if ?_ | refine sp_ret ?_ | refine sp_expr ?_ | refine sp_asg ?_ | refine sp_next ?_ | refine sp_brk ?_ | refine sp_cont ?_ | refine sp_raise ?_ | refine sp_put ?_ | refine sp_retN ?_ | refine sp_par ?_ | refine sp_asgL ?_)
  try dsimp only
  refine rp_lst (rp_acons (rp_tup (rp_acons ?_)))
  conv => (arg 1; simp [okV_iD, okV_dr, okV_dPt, okV_dP, okV_dG, okV_dC, okV_dB, ix_wd, iD_def, tupM_eq])
  refine rp_ok ?_
  try dsimp only
  try simp only [setsE_cons, setsE_nil, List.set_cons_zero, List.set_cons_succ, List.map_cons, List.map_nil, List.length_cons, List.length_nil, List.cons_append, List.nil_append, List.append_nil, List.replicate_succ, List.replicate_zero, Nat.zero_add, Nat.reduceAdd, Nat.reduceSub, wipeE_nil, wipeE_cons, ↓reduceIte, Bool.false_eq_true, Bool.not_true, Bool.not_false]
  refine rp_acons ?_
  conv => (arg 1; simp [okV_iD, okV_dr, okV_dPt, okV_dP, okV_dG, okV_dC, okV_dB, ix_wd, iD_def])
  refine rp_ok ?_
  try dsimp only
  try simp only [setsE_cons, setsE_nil, List.set_cons_zero, List.set_cons_succ, List.map_cons, List.map_nil, List.length_cons, List.length_nil, List.cons_append, List.nil_append, List.append_nil, List.replicate_succ, List.replicate_zero, Nat.zero_add, Nat.reduceAdd, Nat.reduceSub, wipeE_nil, wipeE_cons, ↓reduceIte, Bool.false_eq_true, Bool.not_true, Bool.not_false]
  refine rp_acons (rp_lst (rp_anil ⟨by simp, ?_⟩))
  intro k0 h1 A1 q1 n1 _
  refine rp_anil ⟨by simp, rp_anil ⟨by simp, ?_⟩⟩
  intro kr h2 A2 q2 n2 _
  try simp only [setsE_cons, setsE_nil, List.set_cons_zero, List.set_cons_succ, List.map_cons, List.map_nil, List.length_cons, List.length_nil, List.cons_append, List.nil_append, List.append_nil, List.replicate_succ, List.replicate_zero, Nat.zero_add, Nat.reduceAdd, Nat.reduceSub, wipeE_nil, wipeE_cons, ↓reduceIte, Bool.false_eq_true, Bool.not_true, Bool.not_false]
  (first | refine sp_seq ?_ | refine sp_set ?_ | refine sp_if ?_ | refine sp_ret ?_ | refine sp_expr ?_ | refine sp_asg ?_ | refine sp_next ?_ | refine sp_brk ?_ | refine sp_cont ?_ | refine sp_raise ?_ | refine sp_put ?_ | refine sp_retN ?_ | refine sp_par ?_ | refine sp_asgL ?_)
  try dsimp only
  have t0 : isT h2 kr [oneD] [(oneD, k0)] := ⟨rfl, q2, fun p hp => by rw [List.mem_singleton.mp hp]; exact A2.get q1⟩
  have lss : ∀ K : IH, lenF [.tup (ss.map dSy)] K = .ok (iD ss.length) K := fun K => by rw [lenF_tup, List.length_map]; rfl
  refine sp_forE (ss := [3, 4, 5, 6, 7, 8, 9, 10, 11, 12, 13]) ss dSy (fun i vs H => ∃ (k : Nat) (acc : List Dv) (ps : List (Dv × Nat)) (y4 y5 y6 y7 y8 y9 y10 y11 y12 y13 : Option D), vs = [some (.ref k), y4, y5, y6, y7, y8, y9, y10, y11, y12, y13] ∧ Ap h H ∧ h.length ≤ k ∧ isT H k acc ps ∧ rwF f L (ss.drop i) acc = rwD f ss L ∧ PaOk L i (ss.length - i) acc ∧ (∀ a ∈ acc, a.2.2.length ≤ 2 * a.2.1.length) ∧ ∀ p ∈ ps, h.length ≤ p.2) (vs := [some (.ref kr), none, none, none, none, none, none, none, none, none, none]) (by simp [okV_dSs]) rfl ⟨kr, [oneD], _, _, _, _, _, _, _, _, _, _, _, rfl, A1.trans A2, by have := A1.len; omega, t0, by rw [List.drop_zero]; exact rwF_one, by exact PaOk.one l1, fun a ha => by rw [List.mem_singleton.mp ha]; exact Nat.zero_le _, fun p hp => by rw [List.mem_singleton.mp hp]; exact n1⟩ ?_ ?_
  · rintro i s vs H hi ⟨k, acc, ps, y4, y5, y6, y7, y8, y9, y10, y11, y12, y13, rfl, A, hk, t, rw1, pa, oa, np⟩
    refine ⟨_, rfl, ?_⟩
    have il := (List.getElem?_eq_some_iff.mp hi).1
    have sm := List.mem_of_getElem? hi
    try simp only [setsE_cons, setsE_nil, List.set_cons_zero, List.set_cons_succ, List.map_cons, List.map_nil, List.length_cons, List.length_nil, List.cons_append, List.nil_append, List.append_nil, List.replicate_succ, List.replicate_zero, Nat.zero_add, Nat.reduceAdd, Nat.reduceSub, wipeE_nil, wipeE_cons, ↓reduceIte, Bool.false_eq_true, Bool.not_true, Bool.not_false]
    (first | refine sp_seq ?_ | refine sp_set ?_ | refine sp_if ?_ | refine sp_ret ?_ | refine sp_expr ?_ | refine sp_asg ?_ | refine sp_next ?_ | refine sp_brk ?_ | refine sp_cont ?_ | refine sp_raise ?_ | refine sp_put ?_ | refine sp_retN ?_ | refine sp_par ?_ | refine sp_asgL ?_)
    try dsimp only
    (first | refine sp_seq ?_ | refine sp_set ?_ | refine sp_if ?_ | refine sp_ret ?_ | refine sp_expr ?_ | refine sp_asg ?_ | refine sp_next ?_ | refine sp_brk ?_ | refine sp_cont ?_ | refine sp_raise ?_ | refine sp_put ?_ | refine sp_retN ?_ | refine sp_par ?_ | refine sp_asgL ?_)
    try dsimp only
    refine rp_lst (rp_anil ⟨by simp, ?_⟩)
    intro kl H1 B1 p1 m1 _
    have AH1 := A.trans B1
    have tk := t.ap B1
    have dr1 : ss.drop i = s :: ss.drop (i + 1) := by rw [List.drop_eq_getElem_cons il]; congr 1; exact (List.getElem?_eq_some_iff.mp hi).2
    have rw2 : rwF f L (ss.drop (i + 1)) (stepR f L s (ss.length - (i + 1)) acc) = rwD f ss L := by
      rw [← rw1, dr1, rwF_cons, List.length_drop]
    have pa1 : PaOk L i (ss.length - (i + 1) + 1) acc := by
      rw [show ss.length - (i + 1) + 1 = ss.length - i by omega]; exact pa
    have pa2 := pa1.step (s := s) w z g
    have psl : ps.length ≤ 59049 := by
      rw [t.len]
      have := wt_len (K := L) (ds := acc)
      have := pa.wt
      have : 9 ^ L ≤ 9 ^ 5 := Nat.pow_le_pow_right (by decide) L5
      omega
    have al := B1.len
    have kn : k < H.length := (List.getElem?_eq_some_iff.mp t.lst).1
    have pn : ∀ p ∈ ps, p.2 < H.length := fun p hp => (List.getElem?_eq_some_iff.mp (t.out p hp)).1
    have stepl : ∀ (xs : List Dv), xs.length ≤ (stepR f L s (ss.length - (i + 1)) acc).length → xs.length ≤ 59049 := fun xs h1 => by
      have := wt_len (K := L) (ds := stepR f L s (ss.length - (i + 1)) acc)
      have := pa2.wt
      have : 9 ^ L ≤ 9 ^ 5 := Nat.pow_le_pow_right (by decide) L5
      omega
    try simp only [setsE_cons, setsE_nil, List.set_cons_zero, List.set_cons_succ, List.map_cons, List.map_nil, List.length_cons, List.length_nil, List.cons_append, List.nil_append, List.append_nil, List.replicate_succ, List.replicate_zero, Nat.zero_add, Nat.reduceAdd, Nat.reduceSub, wipeE_nil, wipeE_cons, ↓reduceIte, Bool.false_eq_true, Bool.not_true, Bool.not_false]
    (first | refine sp_seq ?_ | refine sp_set ?_ | refine sp_if ?_ | refine sp_ret ?_ | refine sp_expr ?_ | refine sp_asg ?_ | refine sp_next ?_ | refine sp_brk ?_ | refine sp_cont ?_ | refine sp_raise ?_ | refine sp_put ?_ | refine sp_retN ?_ | refine sp_par ?_ | refine sp_asgL ?_)
    try dsimp only
    refine sp_forV (h1 := H1) (v := viewL k) [7, 8, 9, 10, 11, 12, 13] ps dT (fun j vs K => ∃ (qs : List (Dv × Nat)) (y7 y8 y9 y10 y11 y12 y13 : Option D), vs = [y7, y8, y9, y10, y11, y12, y13] ∧ Ax kl H1 K ∧ isT K kl (stepR f L s (ss.length - (i + 1)) (acc.take j)) qs ∧ ∀ q ∈ qs, q.2 ≠ kl ∧ h.length ≤ q.2) (vs := [y7, y8, y9, y10, y11, y12, y13]) (by simp [srcOf_ref tk.lst]) (by omega) rfl ⟨[], _, _, _, _, _, _, _, rfl, .refl, ⟨rfl, p1, fun p hp => nomatch hp⟩, fun q hq => nomatch hq⟩ ?_ ?_ ?_
    · rintro j vs K ⟨qs, _, _, _, _, _, _, _, rfl, ax, tq, _⟩
      exact viewL_eq (ax.get tk.lst (by omega))
    · rintro j p vs K hj ⟨qs, y7, y8, y9, y10, y11, y12, y13, rfl, ax, tq, nq⟩
      refine ⟨_, rfl, ?_⟩
      have pm := List.mem_of_getElem? hj
      have jl := (List.getElem?_eq_some_iff.mp hj).1
      obtain ⟨⟨ch, wd, ol⟩, o⟩ := p
      have am : acc[j]? = some (ch, wd, ol) := by rw [← t.fst, List.getElem?_map, hj]; rfl
      have amm := List.mem_of_getElem? am
      have lo := pa.lo _ amm
      have hi2 := pa.hi _ amm
      have sz1 := pa.sz _ amm
      have oa1 := oa _ amm
      simp only at lo hi2 sz1 oa1
      have ho : K[o]? = some (.lst (ol.map dC)) := ax.get (tk.out _ pm) (by have := pn _ pm; simp only at this; omega)
      have lw : ∀ K : IH, lenF [.str (wS wd)] K = .ok (iD wd.length) K := fun K => len_wS (by omega)
      have s1 : ∀ K : IH, subM (iD L) (iD wd.length) K = .ok (iD (L - wd.length)) K := fun K => sub_nat (by omega)
      have s2 : ∀ K : IH, subM (iD ss.length) (.int 1) K = .ok (iD (ss.length - 1)) K := fun K => sub_nat (b := 1) (by omega)
      have s3 : ∀ K : IH, subM (iD (ss.length - 1)) (iD i) K = .ok (iD (ss.length - 1 - i)) K := fun K => sub_nat (by omega)
      have s4 : ∀ K : IH, subM (iD (L - wd.length)) (iD (ss.length - 1 - i)) K = .ok (iD (L - wd.length - (ss.length - (i + 1)))) K := fun K => by
        rw [sub_nat (by omega)]
        congr 2
        omega
      try simp only [setsE_cons, setsE_nil, List.set_cons_zero, List.set_cons_succ, List.map_cons, List.map_nil, List.length_cons, List.length_nil, List.cons_append, List.nil_append, List.append_nil, List.replicate_succ, List.replicate_zero, Nat.zero_add, Nat.reduceAdd, Nat.reduceSub, wipeE_nil, wipeE_cons, ↓reduceIte, Bool.false_eq_true, Bool.not_true, Bool.not_false]
      (first | refine sp_seq ?_ | refine sp_set ?_ | refine sp_if ?_ | refine sp_ret ?_ | refine sp_expr ?_ | refine sp_asg ?_ | refine sp_next ?_ | refine sp_brk ?_ | refine sp_cont ?_ | refine sp_raise ?_ | refine sp_put ?_ | refine sp_retN ?_ | refine sp_par ?_ | refine sp_asgL ?_)
      try dsimp only
      (first | refine sp_seq ?_ | refine sp_set ?_ | refine sp_if ?_ | refine sp_ret ?_ | refine sp_expr ?_ | refine sp_asg ?_ | refine sp_next ?_ | refine sp_brk ?_ | refine sp_cont ?_ | refine sp_raise ?_ | refine sp_put ?_ | refine sp_retN ?_ | refine sp_par ?_ | refine sp_asgL ?_)
      try dsimp only
      conv => (arg 1; simp [okV_iD, okV_dr, okV_dPt, okV_dP, okV_dG, okV_dC, okV_dB, ix_wd, iD_def, okV_iD, okV_dSs, okV_wS, lw, s1, s2, s3, s4, lss])
      refine rp_ok ?_
      try dsimp only
      try simp only [setsE_cons, setsE_nil, List.set_cons_zero, List.set_cons_succ, List.map_cons, List.map_nil, List.length_cons, List.length_nil, List.cons_append, List.nil_append, List.append_nil, List.replicate_succ, List.replicate_zero, Nat.zero_add, Nat.reduceAdd, Nat.reduceSub, wipeE_nil, wipeE_cons, ↓reduceIte, Bool.false_eq_true, Bool.not_true, Bool.not_false]
      have gt := ht s sm (L - wd.length - (ss.length - (i + 1))) (by omega) (by omega) K
      obtain ⟨d, K1, e1, kt, ts, rfl, A3, kt1, tt, nt⟩ := rp_to gt
      have wts : (f s (L - wd.length - (ss.length - (i + 1)))).length ≤ 59049 := by
        have a := g s (L - wd.length - (ss.length - (i + 1))) 5 (by omega) (by omega)
        have b := wt_len (K := 5) (ds := f s (L - wd.length - (ss.length - (i + 1))))
        omega
      have A3l := A3.len
      have kln : kl < K.length := (List.getElem?_eq_some_iff.mp tq.lst).1
      refine sp_forV (h1 := K1) (v := viewL kt) [11, 12, 13] ts dT (fun l vs M => ∃ (rs : List (Dv × Nat)) (y11 y12 y13 : Option D), vs = [y11, y12, y13] ∧ Ax kl K1 M ∧ isT M kl (stepR f L s (ss.length - (i + 1)) (acc.take j) ++ ((f s (L - wd.length - (ss.length - (i + 1)))).take l).map (mulD (ch, wd, ol))) rs ∧ ∀ q ∈ rs, q.2 ≠ kl ∧ h.length ≤ q.2) (vs := [y11, y12, y13]) (by simp [okV_dGm, okV_dSy, okV_iD, e1, srcOf_ref tt.lst]) (by rw [tt.len]; omega) rfl ⟨qs, _, _, _, rfl, .refl, by simpa using tq.ap A3, nq⟩ ?_ ?_ ?_
      · rintro l vs M ⟨rs, _, _, _, rfl, ax3, _, _⟩
        exact viewL_eq (ax3.get tt.lst (by omega))
      · rintro l p2 vs M hl ⟨rs, y11, y12, y13, rfl, ax3, tr, nr⟩
        refine ⟨_, rfl, ?_⟩
        have pm2 := List.mem_of_getElem? hl
        obtain ⟨⟨c2, w2, o2⟩, oo⟩ := p2
        have am2 : (f s (L - wd.length - (ss.length - (i + 1))))[l]? = some (c2, w2, o2) := by rw [← tt.fst, List.getElem?_map, hl]; rfl
        have amm2 := List.mem_of_getElem? am2
        have wd2 := w _ _ _ amm2
        have sz2 := z _ _ _ amm2
        have oa2 := ou _ _ _ amm2
        simp only at wd2 sz2 oa2
        have oon := (List.getElem?_eq_some_iff.mp (tt.out _ pm2)).1
        simp only at oon
        have oo1 : M[oo]? = some (.lst (o2.map dC)) := ax3.get (tt.out _ pm2) (by have := nt _ pm2; simp only at this; omega)
        have ho1 : M[o]? = some (.lst (ol.map dC)) := ax3.get (A3.get ho) (by have := pn _ pm; simp only at this; omega)
        have tm : ∀ K : IH, F__law_times [dr ch, dr c2] K = .ok (dr (ch * c2)) K := fun K => ev_law_times (sz1.rb (by omega)) (sz2.rb (by omega))
        have aw : ∀ K : IH, addM (.str (wS wd)) (.str (wS w2)) K = .ok (.str (wS (wd ++ w2))) K := fun K => add_wS (by omega)
        try simp only [setsE_cons, setsE_nil, List.set_cons_zero, List.set_cons_succ, List.map_cons, List.map_nil, List.length_cons, List.length_nil, List.cons_append, List.nil_append, List.append_nil, List.replicate_succ, List.replicate_zero, Nat.zero_add, Nat.reduceAdd, Nat.reduceSub, wipeE_nil, wipeE_cons, ↓reduceIte, Bool.false_eq_true, Bool.not_true, Bool.not_false]
        (first | refine sp_seq ?_ | refine sp_set ?_ | refine sp_if ?_ | refine sp_ret ?_ | refine sp_expr ?_ | refine sp_asg ?_ | refine sp_next ?_ | refine sp_brk ?_ | refine sp_cont ?_ | refine sp_raise ?_ | refine sp_put ?_ | refine sp_retN ?_ | refine sp_par ?_ | refine sp_asgL ?_)
        try dsimp only
        refine rp_meth (k := kl) ?_
        conv => (arg 1; simp [okV_iD, okV_dr, okV_dPt, okV_dP, okV_dG, okV_dC, okV_dB, ix_wd, iD_def])
        refine rp_ok ?_
        try dsimp only
        try simp only [setsE_cons, setsE_nil, List.set_cons_zero, List.set_cons_succ, List.map_cons, List.map_nil, List.length_cons, List.length_nil, List.cons_append, List.nil_append, List.append_nil, List.replicate_succ, List.replicate_zero, Nat.zero_add, Nat.reduceAdd, Nat.reduceSub, wipeE_nil, wipeE_cons, ↓reduceIte, Bool.false_eq_true, Bool.not_true, Bool.not_false]
        refine ⟨_, lisOf_ref tr.lst, rp_acons (rp_tup (rp_acons ?_))⟩
        conv => (arg 1; simp [okV_iD, okV_dr, okV_dPt, okV_dP, okV_dG, okV_dC, okV_dB, ix_wd, iD_def, okV_dr, tm])
        refine rp_ok ?_
        try dsimp only
        try simp only [setsE_cons, setsE_nil, List.set_cons_zero, List.set_cons_succ, List.map_cons, List.map_nil, List.length_cons, List.length_nil, List.cons_append, List.nil_append, List.append_nil, List.replicate_succ, List.replicate_zero, Nat.zero_add, Nat.reduceAdd, Nat.reduceSub, wipeE_nil, wipeE_cons, ↓reduceIte, Bool.false_eq_true, Bool.not_true, Bool.not_false]
        refine rp_acons ?_
        conv => (arg 1; simp [okV_iD, okV_dr, okV_dPt, okV_dP, okV_dG, okV_dC, okV_dB, ix_wd, iD_def, okV_wS, aw])
        refine rp_ok ?_
        try dsimp only
        try simp only [setsE_cons, setsE_nil, List.set_cons_zero, List.set_cons_succ, List.map_cons, List.map_nil, List.length_cons, List.length_nil, List.cons_append, List.nil_append, List.append_nil, List.replicate_succ, List.replicate_zero, Nat.zero_add, Nat.reduceAdd, Nat.reduceSub, wipeE_nil, wipeE_cons, ↓reduceIte, Bool.false_eq_true, Bool.not_true, Bool.not_false]
        refine rp_acons (rp_bin ?_)
        conv => (arg 1; simp [okV_iD, okV_dr, okV_dPt, okV_dP, okV_dG, okV_dC, okV_dB, ix_wd, iD_def])
        refine rp_ok ?_
        try dsimp only
        try simp only [setsE_cons, setsE_nil, List.set_cons_zero, List.set_cons_succ, List.map_cons, List.map_nil, List.length_cons, List.length_nil, List.cons_append, List.nil_append, List.append_nil, List.replicate_succ, List.replicate_zero, Nat.zero_add, Nat.reduceAdd, Nat.reduceSub, wipeE_nil, wipeE_cons, ↓reduceIte, Bool.false_eq_true, Bool.not_true, Bool.not_false]
        refine rp_ok ?_
        refine rp_rw (add_lsts ho1 oo1 (by simp; omega)) (rp_newL ?_)
        intro kn M2 D2 p2 m2 _
        refine rp_anil ⟨by simp, rp_anil ?_⟩
        have tr2 := tr.ap D2
        have lnn := (List.getElem?_eq_some_iff.mp tr.lst).1
        refine rp_append tr2.lst ?_ fun M3 U q3 => ?_
        · rw [List.length_map, tr2.len]
          have e : stepR f L s (ss.length - (i + 1)) (acc.take (j + 1)) = stepR f L s (ss.length - (i + 1)) (acc.take j) ++ (f s (L - wd.length - (ss.length - (i + 1)))).map (mulD (ch, wd, ol)) := by
            unfold stepR
            rw [List.take_add_one, am, List.flatMap_append]
            simp
          have a := stepl _ (stepR_take (f := f) (L := L) (s := s) (r := ss.length - (i + 1)) (acc := acc) (n := j + 1))
          rw [e, List.length_append, List.length_map] at a
          rw [List.length_append, List.length_map, List.length_take]
          omega
        · refine turn_next (vs := [_, _, _]) rfl ⟨rs ++ [((ch * c2, wd ++ w2, ol ++ o2), kn)], _, _, _, rfl, (ax3.trans D2.ax).trans U.ax, ⟨?_, ?_, ?_⟩, ?_⟩
          · rw [List.map_append, tr.fst, List.take_add_one, am2, List.map_append, List.append_assoc]
            rfl
          · rw [q3, List.map_append]
            rfl
          · intro q hq
            rcases List.mem_append.mp hq with hq | hq
            · exact U.get (tr2.out q hq) (nr q hq).1
            · rw [List.mem_singleton.mp hq]
              refine U.get ?_ (by omega)
              rw [p2, List.map_append]
          · intro q hq
            rcases List.mem_append.mp hq with hq | hq
            · exact nr q hq
            · rw [List.mem_singleton.mp hq]
              have := A.len
              have := ax.len
              have := ax3.len
              exact ⟨by show kn ≠ kl; omega, by show h.length ≤ kn; omega⟩
      · rintro vs M ⟨rs, y11, y12, y13, rfl, ax3, tr, nr⟩
        rw [tt.len, List.take_length] at tr
        refine turn_next (vs := [_, _, _, _, _, _, _]) rfl ⟨rs, _, _, _, _, _, _, _, rfl, (ax.trans A3.ax).trans ax3, ?_, nr⟩
        have e : stepR f L s (ss.length - (i + 1)) (acc.take (j + 1)) = stepR f L s (ss.length - (i + 1)) (acc.take j) ++ (f s (L - wd.length - (ss.length - (i + 1)))).map (mulD (ch, wd, ol)) := by
          unfold stepR
          rw [List.take_add_one, am, List.flatMap_append]
          simp
        rw [e]
        exact tr
    · rintro vs K ⟨qs, y7, y8, y9, y10, y11, y12, y13, rfl, ax, tq, nq⟩
      rw [show acc.take ps.length = acc by rw [t.len, List.take_length]] at tq
      try simp only [setsE_cons, setsE_nil, List.set_cons_zero, List.set_cons_succ, List.map_cons, List.map_nil, List.length_cons, List.length_nil, List.cons_append, List.nil_append, List.append_nil, List.replicate_succ, List.replicate_zero, Nat.zero_add, Nat.reduceAdd, Nat.reduceSub, wipeE_nil, wipeE_cons, ↓reduceIte, Bool.false_eq_true, Bool.not_true, Bool.not_false]
      (first | refine sp_seq ?_ | refine sp_set ?_ | refine sp_if ?_ | refine sp_ret ?_ | refine sp_expr ?_ | refine sp_asg ?_ | refine sp_next ?_ | refine sp_brk ?_ | refine sp_cont ?_ | refine sp_raise ?_ | refine sp_put ?_ | refine sp_retN ?_ | refine sp_par ?_ | refine sp_asgL ?_)
      try dsimp only
      conv => (arg 1; simp [okV_iD, okV_dr, okV_dPt, okV_dP, okV_dG, okV_dC, okV_dB, ix_wd, iD_def])
      refine rp_ok ?_
      try dsimp only
      try simp only [setsE_cons, setsE_nil, List.set_cons_zero, List.set_cons_succ, List.map_cons, List.map_nil, List.length_cons, List.length_nil, List.cons_append, List.nil_append, List.append_nil, List.replicate_succ, List.replicate_zero, Nat.zero_add, Nat.reduceAdd, Nat.reduceSub, wipeE_nil, wipeE_cons, ↓reduceIte, Bool.false_eq_true, Bool.not_true, Bool.not_false]
      have aK : Ap h K := ax.ap AH1 (by have := A.len; omega)
      refine turn_next (vs := [_, _, _, _, _, _, _, _, _, _, _]) rfl ⟨kl, _, qs, _, _, _, _, _, _, _, _, _, _, rfl, aK, by have := A.len; omega, tq, rw2, pa2, fun x hx => ?_, fun q hq => (nq q hq).2⟩
      obtain ⟨a, ha, hx⟩ := List.mem_flatMap.mp hx
      obtain ⟨y, hy, rfl⟩ := List.mem_map.mp hx
      have e1 := oa a ha
      have e2 := ou _ _ y hy
      show (a.2.2 ++ y.2.2).length ≤ 2 * (a.2.1 ++ y.2.1).length
      rw [List.length_append, List.length_append]
      omega
  · rintro vs H ⟨k, acc, ps, y4, y5, y6, y7, y8, y9, y10, y11, y12, y13, rfl, A, hk, t, rw1, pa, oa, np⟩
    rw [List.drop_length] at rw1
    have rw1 : acc = rwD f ss L := rw1
    subst rw1
    try simp only [setsE_cons, setsE_nil, List.set_cons_zero, List.set_cons_succ, List.map_cons, List.map_nil, List.length_cons, List.length_nil, List.cons_append, List.nil_append, List.append_nil, List.replicate_succ, List.replicate_zero, Nat.zero_add, Nat.reduceAdd, Nat.reduceSub, wipeE_nil, wipeE_cons, ↓reduceIte, Bool.false_eq_true, Bool.not_true, Bool.not_false]
    (first | refine sp_seq ?_ | refine sp_set ?_ | refine sp_if ?_ | refine sp_ret ?_ | refine sp_expr ?_ | refine sp_asg ?_ | refine sp_next ?_ | refine sp_brk ?_ | refine sp_cont ?_ | refine sp_raise ?_ | refine sp_put ?_ | refine sp_retN ?_ | refine sp_par ?_ | refine sp_asgL ?_)
    try dsimp only
    conv => (arg 1; simp [okV_iD, okV_dr, okV_dPt, okV_dP, okV_dG, okV_dC, okV_dB, ix_wd, iD_def])
    refine rp_ok ?_
    try dsimp only
    try simp only [setsE_cons, setsE_nil, List.set_cons_zero, List.set_cons_succ, List.map_cons, List.map_nil, List.length_cons, List.length_nil, List.cons_append, List.nil_append, List.append_nil, List.replicate_succ, List.replicate_zero, Nat.zero_add, Nat.reduceAdd, Nat.reduceSub, wipeE_nil, wipeE_cons, ↓reduceIte, Bool.false_eq_true, Bool.not_true, Bool.not_false]
    exact tq_new hk ⟨k, ps, rfl, A, hk, t, np⟩
/-- trees -/
theorem ev_tree_let {n m c M : Nat} (hm : 1 ≤ m) (hM : 1 ≤ M) : GivesT gm m (.l c) M (trD gm n (.l c) M) := fun h => by
  obtain ⟨m, rfl⟩ : ∃ j, m = j + 1 := ⟨m - 1, by omega⟩
  rw [unf_trees]
  unfold M__law_trees
  refine rp_def ?_
  have ty : ∀ K : IH, tyN K (dSy (.l c)) = some "str" := fun _ => rfl
  have g0 : ∀ K : IH, gtM (iD M) (.int 0) K = .ok (.bl true) K := fun K => by
    have := gt_nat (a := M) (b := 0) (h := K)
    rw [decide_eq_true (by omega)] at this
    exact this
  try simp only [setsE_cons, setsE_nil, List.set_cons_zero, List.set_cons_succ, List.map_cons, List.map_nil, List.length_cons, List.length_nil, List.cons_append, List.nil_append, List.append_nil, List.replicate_succ, List.replicate_zero, Nat.zero_add, Nat.reduceAdd, Nat.reduceSub, wipeE_nil, wipeE_cons, ↓reduceIte, Bool.false_eq_true, Bool.not_true, Bool.not_false]
  (first | refine sp_seq ?_ | refine sp_set ?_ | refine sp_if ?_ | refine sp_ret ?_ | refine sp_expr ?_ | refine sp_asg ?_ | refine sp_next ?_ | refine sp_brk ?_ | refine sp_cont ?_ | refine sp_raise ?_ | refine sp_put ?_ | refine sp_retN ?_ | refine sp_par ?_ | refine sp_asgL ?_)
  try dsimp only
  (first | refine sp_seq ?_ | refine sp_set ?_ | refine sp_if ?_ | refine sp_ret ?_ | refine sp_expr ?_ | refine sp_asg ?_ | refine sp_next ?_ | refine sp_brk ?_ | refine sp_cont ?_ | refine sp_raise ?_ | refine sp_put ?_ | refine sp_retN ?_ | refine sp_par ?_ | refine sp_asgL ?_)
  try dsimp only
  conv => (arg 1; simp [okV_iD, okV_dr, okV_dPt, okV_dP, okV_dG, okV_dC, okV_dB, ix_wd, iD_def, okV_dSy, ty])
  refine rp_ok ?_
  try dsimp only
  try simp only [setsE_cons, setsE_nil, List.set_cons_zero, List.set_cons_succ, List.map_cons, List.map_nil, List.length_cons, List.length_nil, List.cons_append, List.nil_append, List.append_nil, List.replicate_succ, List.replicate_zero, Nat.zero_add, Nat.reduceAdd, Nat.reduceSub, wipeE_nil, wipeE_cons, ↓reduceIte, Bool.false_eq_true, Bool.not_true, Bool.not_false]
  (first | refine sp_seq ?_ | refine sp_set ?_ | refine sp_if ?_ | refine sp_ret ?_ | refine sp_expr ?_ | refine sp_asg ?_ | refine sp_next ?_ | refine sp_brk ?_ | refine sp_cont ?_ | refine sp_raise ?_ | refine sp_put ?_ | refine sp_retN ?_ | refine sp_par ?_ | refine sp_asgL ?_)
  try dsimp only
  refine rp_ite ?_
  conv => (arg 1; simp [okV_iD, okV_dr, okV_dPt, okV_dP, okV_dG, okV_dC, okV_dB, ix_wd, iD_def, okV_iD, g0])
  refine rp_ok ?_
  try dsimp only
  try simp only [setsE_cons, setsE_nil, List.set_cons_zero, List.set_cons_succ, List.map_cons, List.map_nil, List.length_cons, List.length_nil, List.cons_append, List.nil_append, List.append_nil, List.replicate_succ, List.replicate_zero, Nat.zero_add, Nat.reduceAdd, Nat.reduceSub, wipeE_nil, wipeE_cons, ↓reduceIte, Bool.false_eq_true, Bool.not_true, Bool.not_false]
  refine rp_lst (rp_acons (rp_tup (rp_acons ?_)))
  conv => (arg 1; simp [okV_iD, okV_dr, okV_dPt, okV_dP, okV_dG, okV_dC, okV_dB, ix_wd, iD_def, tupM_eq])
  refine rp_ok ?_
  try dsimp only
  try simp only [setsE_cons, setsE_nil, List.set_cons_zero, List.set_cons_succ, List.map_cons, List.map_nil, List.length_cons, List.length_nil, List.cons_append, List.nil_append, List.append_nil, List.replicate_succ, List.replicate_zero, Nat.zero_add, Nat.reduceAdd, Nat.reduceSub, wipeE_nil, wipeE_cons, ↓reduceIte, Bool.false_eq_true, Bool.not_true, Bool.not_false]
  refine rp_acons ?_
  conv => (arg 1; simp [okV_iD, okV_dr, okV_dPt, okV_dP, okV_dG, okV_dC, okV_dB, ix_wd, iD_def, okV_dSy])
  refine rp_ok ?_
  try dsimp only
  try simp only [setsE_cons, setsE_nil, List.set_cons_zero, List.set_cons_succ, List.map_cons, List.map_nil, List.length_cons, List.length_nil, List.cons_append, List.nil_append, List.append_nil, List.replicate_succ, List.replicate_zero, Nat.zero_add, Nat.reduceAdd, Nat.reduceSub, wipeE_nil, wipeE_cons, ↓reduceIte, Bool.false_eq_true, Bool.not_true, Bool.not_false]
  refine rp_acons (rp_lst (rp_anil ⟨by simp, ?_⟩))
  intro k0 h1 A1 q1 n1 _
  refine rp_anil ⟨by simp, rp_anil ⟨by simp, ?_⟩⟩
  intro kr h2 A2 q2 n2 _
  rw [trD_let, if_pos (by omega)]
  exact tq_new (by have := A1.len; omega) ⟨kr, [((1, [c], []), k0)], rfl, A1.trans A2, by have := A1.len; omega, ⟨rfl, q2, fun p hp => by rw [List.mem_singleton.mp hp]; exact A2.get q1⟩, fun p hp => by rw [List.mem_singleton.mp hp]; exact n1⟩
theorem trD_out (pg : Pg gm) : ∀ n s M, ∀ t ∈ trD gm n s M, t.2.2.length + 1 ≤ 2 * t.2.1.length
  | n, .l c, M, t, ht => by
    rw [trD_let] at ht
    split at ht
    · have : t = (1, [c], []) := by simpa using ht
      rw [this]
      exact Nat.le_succ _
    · cases ht
  | 0, .v k, M, t, ht => by cases ht
  | n + 1, .v k, M, t, ht => by
    unfold trD at ht
    obtain ⟨r, hr, ht⟩ := List.mem_flatMap.mp ht
    have hm := List.mem_zipIdx' (x := r.1) (i := r.2) hr
    have hr1 : r.1 ∈ gm.getD k [] := by rw [hm.2]; exact List.getElem_mem _
    obtain ⟨rs, h1, h2, _⟩ := getD_mem hr1
    have key : ∀ (ss : List Sy) (L : Nat), ∀ d ∈ rwD (trD gm n) ss L, d.2.2.length + ss.length ≤ 2 * d.2.1.length := fun ss => by
      induction ss with
      | nil =>
        intro L d hd
        have : d = oneD := by simpa [rwD] using hd
        rw [this]
        exact Nat.le_refl _
      | cons s ss ih =>
        intro L d hd
        obtain ⟨t, ht, hd⟩ := List.mem_flatMap.mp hd
        obtain ⟨r, hr, rfl⟩ := List.mem_map.mp hd
        have a := trD_out pg n s _ t ht
        have b := ih _ r hr
        show (t.2.2 ++ r.2.2).length + (s :: ss).length ≤ 2 * (t.2.1 ++ r.2.1).length
        rw [List.length_append, List.length_append, List.length_cons]
        omega
    split at ht
    · rename_i c
      obtain ⟨d, hd, rfl⟩ := List.mem_map.mp ht
      show (d.2.2.length + 1) + 1 ≤ 2 * d.2.1.length
      rcases pg.pl rs h1 r.1 h2 with ⟨x, hx⟩ | p
      · rw [hx] at hd c
        rw [rwD_let (by simpa using c)] at hd
        have : d = (1, [x], []) := by simpa using hd
        rw [this]
        exact Nat.le_refl _
      · have := key r.1.2 M d hd
        omega
    · cases ht
def ruleT (gm : Gm) (n k M : Nat) (r : Ru × Nat) : List Dv := if r.1.2.length ≤ M then (rwD (trD gm n) r.1.2 M).map fun d => (r.1.1 * d.1, d.2.1, (k, r.2) :: d.2.2) else []
theorem trD_var {n k M : Nat} : trD gm (n + 1) (.v k) M = (gm.getD k []).zipIdx.flatMap (ruleT gm n k M) := rfl
theorem ev_tree_var (pg : Pg gm) {n m M k : Nat} (ih : ∀ n', n = n' + 1 → ∀ m M s, OkSy gm.length s → 2 * n' + 2 ≤ m → M ≤ n' → 1 ≤ M → M ≤ 5 → GivesT gm m s M (trD gm n' s M)) (os : k < gm.length) (hm : 2 * n + 2 ≤ m) (hM : M ≤ n) (h5 : M ≤ 5) : GivesT gm m (.v k) M (trD gm n (.v k) M) := fun h => by
  obtain ⟨m, rfl⟩ : ∃ j, m = j + 1 := ⟨m - 1, by omega⟩
  have gk : gm[k]? = some gm[k] := List.getElem?_eq_getElem os
  have gd : gm.getD k [] = gm[k] := by simp [List.getD, gk]
  have rm := List.mem_of_getElem? gk
  have tot : (trD gm n (.v k) M).length ≤ 59049 := by
    rcases Nat.eq_zero_or_pos M with z | z
    · match hn : trD gm n (.v k) M with
      | [] => exact Nat.zero_le _
      | t :: ts =>
        have := trD_ok pg n (.v k) M t (by rw [hn]; exact List.mem_cons_self)
        omega
    · have a := trD_wt pg n (.v k) M 5 z h5
      have b := wt_len (K := 5) (ds := trD gm n (.v k) M)
      omega
  have etr : trD gm n (.v k) M = (gm[k].zipIdx).flatMap (ruleT gm (n - 1) k M) := by
    cases n with
    | zero =>
      have : M = 0 := by omega
      subst this
      show [] = _
      symm
      rw [List.flatMap_eq_nil_iff]
      intro r hr
      have hmm := List.mem_zipIdx' (x := r.1) (i := r.2) hr
      have p := (pg.pl _ rm r.1 (by rw [hmm.2]; exact List.getElem_mem _)).pos
      unfold ruleT
      rw [if_neg (by omega)]
    | succ n => rw [trD_var, gd]; rfl
  have pre : ∀ i, ((gm[k].zipIdx.take i).flatMap (ruleT gm (n - 1) k M)).length ≤ 59049 := fun i => by
    rw [etr] at tot
    have : ((gm[k].zipIdx.take i).flatMap (ruleT gm (n - 1) k M)).length ≤ ((gm[k].zipIdx).flatMap (ruleT gm (n - 1) k M)).length := by
      conv => rhs; rw [← List.take_append_drop i gm[k].zipIdx]
      rw [List.flatMap_append, List.length_append]
      omega
    omega
  rw [unf_trees]
  unfold M__law_trees
  refine rp_def ?_
  have ty : ∀ K : IH, tyN K (dSy (.v k)) = some "int" := fun _ => rfl
  try simp only [setsE_cons, setsE_nil, List.set_cons_zero, List.set_cons_succ, List.map_cons, List.map_nil, List.length_cons, List.length_nil, List.cons_append, List.nil_append, List.append_nil, List.replicate_succ, List.replicate_zero, Nat.zero_add, Nat.reduceAdd, Nat.reduceSub, wipeE_nil, wipeE_cons, ↓reduceIte, Bool.false_eq_true, Bool.not_true, Bool.not_false]
  (first | refine sp_seq ?_ | refine sp_set ?_ | refine sp_if ?_ | refine sp_ret ?_ | refine sp_expr ?_ | refine sp_asg ?_ | refine sp_next ?_ | refine sp_brk ?_ | refine sp_cont ?_ | refine sp_raise ?_ | refine sp_put ?_ | refine sp_retN ?_ | refine sp_par ?_ | refine sp_asgL ?_)
  try dsimp only
  (first | refine sp_seq ?_ | refine sp_set ?_ | refine sp_if ?_ | refine sp_ret ?_ | refine sp_expr ?_ | refine sp_asg ?_ | refine sp_next ?_ | refine sp_brk ?_ | refine sp_cont ?_ | refine sp_raise ?_ | refine sp_put ?_ | refine sp_retN ?_ | refine sp_par ?_ | refine sp_asgL ?_)
  try dsimp only
  conv => (arg 1; simp [okV_iD, okV_dr, okV_dPt, okV_dP, okV_dG, okV_dC, okV_dB, ix_wd, iD_def, okV_dSy, ty])
  refine rp_ok ?_
  try dsimp only
  try simp only [setsE_cons, setsE_nil, List.set_cons_zero, List.set_cons_succ, List.map_cons, List.map_nil, List.length_cons, List.length_nil, List.cons_append, List.nil_append, List.append_nil, List.replicate_succ, List.replicate_zero, Nat.zero_add, Nat.reduceAdd, Nat.reduceSub, wipeE_nil, wipeE_cons, ↓reduceIte, Bool.false_eq_true, Bool.not_true, Bool.not_false]
  (first | refine sp_seq ?_ | refine sp_set ?_ | refine sp_if ?_ | refine sp_ret ?_ | refine sp_expr ?_ | refine sp_asg ?_ | refine sp_next ?_ | refine sp_brk ?_ | refine sp_cont ?_ | refine sp_raise ?_ | refine sp_put ?_ | refine sp_retN ?_ | refine sp_par ?_ | refine sp_asgL ?_)
  try dsimp only
  (first | refine sp_seq ?_ | refine sp_set ?_ | refine sp_if ?_ | refine sp_ret ?_ | refine sp_expr ?_ | refine sp_asg ?_ | refine sp_next ?_ | refine sp_brk ?_ | refine sp_cont ?_ | refine sp_raise ?_ | refine sp_put ?_ | refine sp_retN ?_ | refine sp_par ?_ | refine sp_asgL ?_)
  try dsimp only
  (first | refine sp_seq ?_ | refine sp_set ?_ | refine sp_if ?_ | refine sp_ret ?_ | refine sp_expr ?_ | refine sp_asg ?_ | refine sp_next ?_ | refine sp_brk ?_ | refine sp_cont ?_ | refine sp_raise ?_ | refine sp_put ?_ | refine sp_retN ?_ | refine sp_par ?_ | refine sp_asgL ?_)
  try dsimp only
  refine rp_lst (rp_anil ⟨by simp, ?_⟩)
  intro kl h1 A1 q1 n1 _
  try simp only [setsE_cons, setsE_nil, List.set_cons_zero, List.set_cons_succ, List.map_cons, List.map_nil, List.length_cons, List.length_nil, List.cons_append, List.nil_append, List.append_nil, List.replicate_succ, List.replicate_zero, Nat.zero_add, Nat.reduceAdd, Nat.reduceSub, wipeE_nil, wipeE_cons, ↓reduceIte, Bool.false_eq_true, Bool.not_true, Bool.not_false]
  (first | refine sp_seq ?_ | refine sp_set ?_ | refine sp_if ?_ | refine sp_ret ?_ | refine sp_expr ?_ | refine sp_asg ?_ | refine sp_next ?_ | refine sp_brk ?_ | refine sp_cont ?_ | refine sp_raise ?_ | refine sp_put ?_ | refine sp_retN ?_ | refine sp_par ?_ | refine sp_asgL ?_)
  try dsimp only
  have ix : ∀ K : IH, ixM (dGm gm) (dSy (.v k)) K = .ok (dRs gm[k]) K := fun K => ix_at (by rw [List.getElem?_map, gk]; rfl)
  refine sp_forE (ss := [4, 5, 6, 7, 8]) gm[k] dRu (fun i vs H => ∃ (qs : List (Dv × Nat)) (y4 y5 y6 y7 y8 : Option D), vs = [y4, y5, y6, y7, y8] ∧ Ap h H ∧ h.length ≤ kl ∧ isT H kl ((gm[k].zipIdx.take i).flatMap (ruleT gm (n - 1) k M)) qs ∧ ∀ q ∈ qs, q.2 ≠ kl ∧ h.length ≤ q.2) (vs := [none, none, none, none, none]) (by simp [okV_dGm, okV_dSy, ix, dRs]) rfl ⟨[], _, _, _, _, _, rfl, A1, n1, ⟨rfl, q1, fun p hp => nomatch hp⟩, fun q hq => nomatch hq⟩ ?_ ?_
  · rintro i r vs H hi ⟨qs, y4, y5, y6, y7, y8, rfl, A, kl0, tq, nq⟩
    refine ⟨_, rfl, ?_⟩
    have il := (List.getElem?_eq_some_iff.mp hi).1
    have hrm := List.mem_of_getElem? hi
    have zi : gm[k].zipIdx[i]? = some (r, i) := by rw [List.getElem?_zipIdx, hi]; simp
    have tk : (gm[k].zipIdx.take (i + 1)).flatMap (ruleT gm (n - 1) k M) = (gm[k].zipIdx.take i).flatMap (ruleT gm (n - 1) k M) ++ ruleT gm (n - 1) k M (r, i) := by
      rw [List.take_add_one, zi, List.flatMap_append]
      simp
    have pr1 := pre (i + 1)
    rw [tk] at pr1
    obtain ⟨ch, ss⟩ := r
    have pls := pg.pl _ rm _ hrm
    have s3 := pg.s3 _ rm _ hrm
    have sy := ((pg.ok.rs _ rm).ru _ hrm).sy
    obtain ⟨wgt, hw, ew⟩ := pg.c60 _ rm _ hrm
    simp only at pls s3 sy ew
    have pp := pls.pos
    have lss : ∀ K : IH, lenF [.tup (ss.map dSy)] K = .ok (iD ss.length) K := fun K => by rw [lenF_tup, List.length_map]; rfl
    have ix1 : ∀ K : IH, ixM (dRu (ch, ss)) (.int 1) K = .ok (.tup (ss.map dSy)) K := fun K => rfl
    have ix0 : ∀ K : IH, ixM (dRu (ch, ss)) (.int 0) K = .ok (dr ch) K := fun K => rfl
    have le1 : ∀ K : IH, leM (iD ss.length) (iD M) K = .ok (.bl (decide (ss.length ≤ M))) K := fun K => le_nat
    try simp only [setsE_cons, setsE_nil, List.set_cons_zero, List.set_cons_succ, List.map_cons, List.map_nil, List.length_cons, List.length_nil, List.cons_append, List.nil_append, List.append_nil, List.replicate_succ, List.replicate_zero, Nat.zero_add, Nat.reduceAdd, Nat.reduceSub, wipeE_nil, wipeE_cons, ↓reduceIte, Bool.false_eq_true, Bool.not_true, Bool.not_false]
    (first | refine sp_seq ?_ | refine sp_set ?_ | refine sp_if ?_ | refine sp_ret ?_ | refine sp_expr ?_ | refine sp_asg ?_ | refine sp_next ?_ | refine sp_brk ?_ | refine sp_cont ?_ | refine sp_raise ?_ | refine sp_put ?_ | refine sp_retN ?_ | refine sp_par ?_ | refine sp_asgL ?_)
    try dsimp only
    conv => (arg 1; simp [okV_iD, okV_dr, okV_dPt, okV_dP, okV_dG, okV_dC, okV_dB, ix_wd, iD_def, okV_dRu, okV_iD, ix1, lss, le1])
    refine rp_ok ?_
    try dsimp only
    try simp only [setsE_cons, setsE_nil, List.set_cons_zero, List.set_cons_succ, List.map_cons, List.map_nil, List.length_cons, List.length_nil, List.cons_append, List.nil_append, List.append_nil, List.replicate_succ, List.replicate_zero, Nat.zero_add, Nat.reduceAdd, Nat.reduceSub, wipeE_nil, wipeE_cons, ↓reduceIte, Bool.false_eq_true, Bool.not_true, Bool.not_false]
    by_cases c : ss.length ≤ M
    · simp only [c, decide_true, if_true]
      obtain ⟨n, rfl⟩ : ∃ j, n = j + 1 := ⟨n - 1, by omega⟩
      obtain ⟨m, rfl⟩ : ∃ j, m = j + 1 := ⟨m - 1, by omega⟩
      rw [show n + 1 - 1 = n by omega] at *
      have gr := ev_rows (gm := gm) (f := trD gm n) (L := M) (ss := ss) (m := m) (trD_ok pg n) (trD_sz pg n) (trD_wt pg n) (fun s M t ht => by have := trD_out pg n s M t ht; omega) c (by omega) h5 (fun s hs M' h1' h2' => by
        rcases pls with ⟨x, rfl⟩ | p
        · rw [List.mem_singleton.mp hs]
          exact ev_tree_let (by omega) h1'
        · exact ih n rfl m M' s (sy s hs) (by omega) (by omega) h1' (by omega)) H
      obtain ⟨d, K1, e1, kt, ts, rfl, A3, kt1, tt, nt⟩ := rp_to gr
      have rT : ruleT gm n k M ((ch, ss), i) = (rwD (trD gm n) ss M).map fun d => (ch * d.1, d.2.1, (k, i) :: d.2.2) := by unfold ruleT; rw [if_pos c]
      rw [rT, List.length_append, List.length_map] at pr1
      have A3l := A3.len
      have kln : kl < H.length := (List.getElem?_eq_some_iff.mp tq.lst).1
      refine sp_forV (h1 := K1) (v := viewL kt) [6, 7, 8] ts dT (fun l vs N => ∃ (rs : List (Dv × Nat)) (y6 y7 y8 : Option D), vs = [y6, y7, y8] ∧ Ax kl K1 N ∧ isT N kl ((gm[k].zipIdx.take i).flatMap (ruleT gm n k M) ++ ((rwD (trD gm n) ss M).take l).map fun d => (ch * d.1, d.2.1, (k, i) :: d.2.2)) rs ∧ ∀ q ∈ rs, q.2 ≠ kl ∧ h.length ≤ q.2) (vs := [y6, y7, y8]) (by simp [okV_dGm, okV_dRu, okV_iD, ix1, e1, srcOf_ref tt.lst]) (by rw [tt.len]; omega) rfl ⟨qs, _, _, _, rfl, .refl, by simpa using tq.ap A3, nq⟩ ?_ ?_ ?_
      · rintro l vs N ⟨rs, _, _, _, rfl, ax3, _, _⟩
        exact viewL_eq (ax3.get tt.lst (by omega))
      · rintro l p2 vs N hl ⟨rs, y6, y7, y8, rfl, ax3, tr, nr⟩
        refine ⟨_, rfl, ?_⟩
        have pm2 := List.mem_of_getElem? hl
        obtain ⟨⟨c2, w2, o2⟩, oo⟩ := p2
        have am2 : (rwD (trD gm n) ss M)[l]? = some (c2, w2, o2) := by rw [← tt.fst, List.getElem?_map, hl]; rfl
        have amm2 := List.mem_of_getElem? am2
        have wd2 := rwD_len (trD_ok pg n) ss M c _ amm2
        have sz2 := rwD_sz (trD_ok pg n) (trD_sz pg n) ss M c _ amm2
        have oa2 : o2.length ≤ 1000 := by
          have hx := trD_out pg (n + 1) (.v k) M (ch * c2, w2, (k, i) :: o2) (by
            rw [etr]
            refine List.mem_flatMap.mpr ⟨((ch, ss), i), List.mem_of_getElem? zi, ?_⟩
            rw [rT]
            exact List.mem_map.mpr ⟨_, amm2, rfl⟩)
          simp only [List.length_cons] at hx
          simp only at wd2
          omega
        simp only at wd2 sz2
        have oo1 : N[oo]? = some (.lst (o2.map dC)) := ax3.get (tt.out _ pm2) (by have := nt _ pm2; simp only at this; omega)
        have tm : ∀ K : IH, F__law_times [dr ch, dr c2] K = .ok (dr (ch * c2)) K := fun K => ev_law_times (c60_rb pg rm hrm) (sz2.rb (by omega))
        have lnn := (List.getElem?_eq_some_iff.mp tr.lst).1
        try simp only [setsE_cons, setsE_nil, List.set_cons_zero, List.set_cons_succ, List.map_cons, List.map_nil, List.length_cons, List.length_nil, List.cons_append, List.nil_append, List.append_nil, List.replicate_succ, List.replicate_zero, Nat.zero_add, Nat.reduceAdd, Nat.reduceSub, wipeE_nil, wipeE_cons, ↓reduceIte, Bool.false_eq_true, Bool.not_true, Bool.not_false]
        (first | refine sp_seq ?_ | refine sp_set ?_ | refine sp_if ?_ | refine sp_ret ?_ | refine sp_expr ?_ | refine sp_asg ?_ | refine sp_next ?_ | refine sp_brk ?_ | refine sp_cont ?_ | refine sp_raise ?_ | refine sp_put ?_ | refine sp_retN ?_ | refine sp_par ?_ | refine sp_asgL ?_)
        try dsimp only
        refine rp_meth (k := kl) ?_
        conv => (arg 1; simp [okV_iD, okV_dr, okV_dPt, okV_dP, okV_dG, okV_dC, okV_dB, ix_wd, iD_def])
        refine rp_ok ?_
        try dsimp only
        try simp only [setsE_cons, setsE_nil, List.set_cons_zero, List.set_cons_succ, List.map_cons, List.map_nil, List.length_cons, List.length_nil, List.cons_append, List.nil_append, List.append_nil, List.replicate_succ, List.replicate_zero, Nat.zero_add, Nat.reduceAdd, Nat.reduceSub, wipeE_nil, wipeE_cons, ↓reduceIte, Bool.false_eq_true, Bool.not_true, Bool.not_false]
        refine ⟨_, lisOf_ref tr.lst, rp_acons (rp_tup (rp_acons ?_))⟩
        conv => (arg 1; simp [okV_iD, okV_dr, okV_dPt, okV_dP, okV_dG, okV_dC, okV_dB, ix_wd, iD_def, okV_dRu, okV_dr, ix0, tm])
        refine rp_ok ?_
        try dsimp only
        try simp only [setsE_cons, setsE_nil, List.set_cons_zero, List.set_cons_succ, List.map_cons, List.map_nil, List.length_cons, List.length_nil, List.cons_append, List.nil_append, List.append_nil, List.replicate_succ, List.replicate_zero, Nat.zero_add, Nat.reduceAdd, Nat.reduceSub, wipeE_nil, wipeE_cons, ↓reduceIte, Bool.false_eq_true, Bool.not_true, Bool.not_false]
        refine rp_acons ?_
        conv => (arg 1; simp [okV_iD, okV_dr, okV_dPt, okV_dP, okV_dG, okV_dC, okV_dB, ix_wd, iD_def, okV_wS])
        refine rp_ok ?_
        try dsimp only
        try simp only [setsE_cons, setsE_nil, List.set_cons_zero, List.set_cons_succ, List.map_cons, List.map_nil, List.length_cons, List.length_nil, List.cons_append, List.nil_append, List.append_nil, List.replicate_succ, List.replicate_zero, Nat.zero_add, Nat.reduceAdd, Nat.reduceSub, wipeE_nil, wipeE_cons, ↓reduceIte, Bool.false_eq_true, Bool.not_true, Bool.not_false]
        refine rp_acons (rp_bin (rp_lst (rp_acons ?_)))
        conv => (arg 1; simp [okV_iD, okV_dr, okV_dPt, okV_dP, okV_dG, okV_dC, okV_dB, ix_wd, iD_def, okV_dSy, okV_iD, tupM_eq])
        refine rp_ok ?_
        try dsimp only
        try simp only [setsE_cons, setsE_nil, List.set_cons_zero, List.set_cons_succ, List.map_cons, List.map_nil, List.length_cons, List.length_nil, List.cons_append, List.nil_append, List.append_nil, List.replicate_succ, List.replicate_zero, Nat.zero_add, Nat.reduceAdd, Nat.reduceSub, wipeE_nil, wipeE_cons, ↓reduceIte, Bool.false_eq_true, Bool.not_true, Bool.not_false]
        refine rp_anil ⟨by simp, ?_⟩
        intro k3 N1 D1 p1 m1 _
        refine rp_ok ?_
        refine rp_rw (add_lsts p1 (D1.get oo1) (by simp; omega)) (rp_newL ?_)
        intro kn N2 D2 p2 m2 _
        refine rp_anil ⟨by simp, rp_anil ?_⟩
        have D1l := D1.len
        have tr2 := tr.ap (D1.trans D2)
        refine rp_append tr2.lst ?_ fun M3 U q3 => ?_
        · rw [List.length_map, tr2.len, List.length_append, List.length_map, List.length_take]
          omega
        · refine turn_next (vs := [_, _, _]) rfl ⟨rs ++ [((ch * c2, w2, (k, i) :: o2), kn)], _, _, _, rfl, (ax3.trans (D1.trans D2).ax).trans U.ax, ⟨?_, ?_, ?_⟩, ?_⟩
          · rw [List.map_append, tr.fst, List.take_add_one, am2, List.map_append, List.append_assoc]
            rfl
          · rw [q3, List.map_append]
            rfl
          · intro q hq
            rcases List.mem_append.mp hq with hq | hq
            · exact U.get (tr2.out q hq) (nr q hq).1
            · rw [List.mem_singleton.mp hq]
              refine U.get ?_ (by omega)
              rw [p2]
              rfl
          · intro q hq
            rcases List.mem_append.mp hq with hq | hq
            · exact nr q hq
            · rw [List.mem_singleton.mp hq]
              have := A.len
              have := ax3.len
              exact ⟨by show kn ≠ kl; omega, by show h.length ≤ kn; omega⟩
      · rintro vs N ⟨rs, y6, y7, y8, rfl, ax3, tr, nr⟩
        rw [tt.len, List.take_length, ← rT, ← tk] at tr
        exact turn_next (vs := [_, _, _, _, _]) rfl ⟨rs, _, _, _, _, _, rfl, ax3.ap (A.trans A3) kl0, kl0, tr, nr⟩
    · simp only [c, decide_false, Bool.false_eq_true, if_false]
      have rT : ruleT gm (n - 1) k M ((ch, ss), i) = [] := by unfold ruleT; rw [if_neg c]
      rw [rT, List.append_nil] at tk
      rw [← tk] at tq
      (first | refine sp_seq ?_ | refine sp_set ?_ | refine sp_if ?_ | refine sp_ret ?_ | refine sp_expr ?_ | refine sp_asg ?_ | refine sp_next ?_ | refine sp_brk ?_ | refine sp_cont ?_ | refine sp_raise ?_ | refine sp_put ?_ | refine sp_retN ?_ | refine sp_par ?_ | refine sp_asgL ?_)
      try dsimp only
      exact turn_next (vs := [_, _, _, _, _]) rfl ⟨qs, _, _, _, _, _, rfl, A, kl0, tq, nq⟩
  · rintro vs H ⟨qs, y4, y5, y6, y7, y8, rfl, A, kl0, tq, nq⟩
    rw [show gm[k].zipIdx.take gm[k].length = gm[k].zipIdx from List.take_of_length_le (by simp), ← etr] at tq
    try simp only [setsE_cons, setsE_nil, List.set_cons_zero, List.set_cons_succ, List.map_cons, List.map_nil, List.length_cons, List.length_nil, List.cons_append, List.nil_append, List.append_nil, List.replicate_succ, List.replicate_zero, Nat.zero_add, Nat.reduceAdd, Nat.reduceSub, wipeE_nil, wipeE_cons, ↓reduceIte, Bool.false_eq_true, Bool.not_true, Bool.not_false]
    (first | refine sp_seq ?_ | refine sp_set ?_ | refine sp_if ?_ | refine sp_ret ?_ | refine sp_expr ?_ | refine sp_asg ?_ | refine sp_next ?_ | refine sp_brk ?_ | refine sp_cont ?_ | refine sp_raise ?_ | refine sp_put ?_ | refine sp_retN ?_ | refine sp_par ?_ | refine sp_asgL ?_)
    try dsimp only
    conv => (arg 1; simp [okV_iD, okV_dr, okV_dPt, okV_dP, okV_dG, okV_dC, okV_dB, ix_wd, iD_def])
    refine rp_ok ?_
    try dsimp only
    try simp only [setsE_cons, setsE_nil, List.set_cons_zero, List.set_cons_succ, List.map_cons, List.map_nil, List.length_cons, List.length_nil, List.cons_append, List.nil_append, List.append_nil, List.replicate_succ, List.replicate_zero, Nat.zero_add, Nat.reduceAdd, Nat.reduceSub, wipeE_nil, wipeE_cons, ↓reduceIte, Bool.false_eq_true, Bool.not_true, Bool.not_false]
    exact tq_new kl0 ⟨kl, qs, rfl, A, kl0, tq, fun q hq => (nq q hq).2⟩
theorem ev_trees (pg : Pg gm) : ∀ (n m M : Nat) (s : Sy), OkSy gm.length s → 2 * n + 2 ≤ m → M ≤ n → 1 ≤ M → M ≤ 5 → GivesT gm m s M (trD gm n s M)
  | n, m, M, .l c, os, hm, hM, h1, h5 => ev_tree_let (by omega) h1
  | 0, m, M, .v k, os, hm, hM, h1, h5 => by omega
  | n + 1, m, M, .v k, os, hm, hM, h1, h5 => ev_tree_var pg (fun n' e m M s o a b c d => by cases e; exact ev_trees pg n m M s o a b c d) os hm hM h5
end
end Zc
/-! W5: dicts: reading, storing, comprehensions, displays, walks over their keys. -/
namespace Zc
open PySem L2 Z Q
section
variable {h h1 : IH} {n : Nat} {kvs : List (List Int × D)} {e d x : D} {k : List Int} {env : Ev}
theorem dictAt_of (q : h[n]? = some (.dit kvs)) (hk : keyI e = some k) : dictAt h (.ref n) e = some (getB kvs k) := by
  unfold dictAt
  dsimp only
  rw [q]
  dsimp only
  rw [hk]
  rfl
theorem dget_of (q : h[n]? = some (.dit kvs)) (hk : keyI e = some k) (hg : getB kvs k = some x) : dgetM (.ref n) e h = .ok x h := by
  unfold dgetM
  rw [dictAt_of q hk, hg]
theorem din_of (neg : Bool) (q : h[n]? = some (.dit kvs)) (hk : keyI e = some k) : dinM neg e (.ref n) h = .ok (.bl (xor neg (getB kvs k).isSome)) h := by
  unfold dinM
  rw [dictAt_of q hk]
theorem setDi_of (q : h[n]? = some (.dit kvs)) (hk : keyI e = some k) (hl : kvs.length < 16777216) : ∃ h', setDi (.ref n) e d h = some h' ∧ Up n h h' ∧ h'[n]? = some (.dit (putB kvs k d)) := by
  refine ⟨h.set n (.dit (putB kvs k d)), ?_, .set, List.getElem?_set_self (List.getElem?_eq_some_iff.mp q).1⟩
  unfold setDi
  dsimp only
  rw [q]
  dsimp only
  rw [hk]
  dsimp only
  rw [if_pos hl]
variable {mo mk md : ME} {Q : D → IH → Prop} {X : Exc → IH → Prop}
end
/-! ### a comprehension's walk -/
section
variable {α : Type} {h h1 : IH} {env : Ev} {mi : MI} {own : List Nat} {g : MG} {mk mv : ME} {Q : D → IH → Prop} {X : Exc → IH → Prop}
end
/-! ### for k in a dict -/
section
variable {h h1 : IH} {env : Ev} {g : MG} {mb : MS} {c : Ct} {ma : ME}
end
/-! ### comprehensions whose items add to the heap -/
section
variable {α : Type} {h h1 : IH} {env : Ev} {mi : MI} {own : List Nat} {g : MG} {mt : MT} {me : ME} {Q : D → IH → Prop} {X : Exc → IH → Prop}
/-- a test and an item, each adding to the heap -/
def ItA (mt : MT) (me : ME) (e : Ev) (H : IH) (b : Bool) (d : D) : Prop := rp (mt e H) (fun c H1 => c = b ∧ Ap H H1 ∧ (b = true → rp (me e H1) (fun y H2 => y = d ∧ Ap H1 H2) noX)) noX
theorem ItA.j {e : Ev} {H : IH} {b : Bool} {d : D} {acc : List D} {J : List D → IH → Prop} (w : ItA mt me e H b d) (j : ∀ H1, Ap H H1 → J (if b = true then acc ++ [d] else acc) H1) : ItJ mt me e H acc J := by
  unfold ItJ
  refine rp_mono w (fun c H1 q => ?_) fun _ _ q => q
  obtain ⟨rfl, A, w⟩ := q
  cases c with
  | false => exact j H1 A
  | true =>
    show rp (me e H1) _ _
    refine rp_mono (w rfl) (fun y H2 q => ?_) fun _ _ q => q
    obtain ⟨rfl, A2⟩ := q
    exact j H2 (A.trans A2)
end
end Zc
/-! G23C: the program's chances of words. -/
namespace Zc
open PySem L2 Z Q
theorem cutT_from1 {xs : List D} {i : Nat} (hi : i ≤ xs.length) : cutD xs (some (i : Int)) none = xs.drop i := by
  unfold cutD
  rw [HT.sIx_nat, HT.sIx_none, Nat.min_eq_left hi]
  exact List.take_of_length_le (by rw [List.length_drop]; omega)
/-- letters from a up to b -/
def cutN (w : List Nat) (a b : Nat) : List Nat := (w.drop a).take (b - a)
section
variable {w : List Nat} {a b m : Nat}
theorem cutN_len (hb : b ≤ w.length) : (cutN w a b).length = b - a := by
  unfold cutN
  rw [List.length_take, List.length_drop]
  omega
theorem cutN_take {i : Nat} (h : a + i ≤ b) : (cutN w a b).take i = cutN w a (a + i) := by
  unfold cutN
  rw [List.take_take, Nat.min_eq_left (by omega), Nat.add_sub_cancel_left]
theorem cutN_drop {i : Nat} : (cutN w a b).drop i = cutN w (a + i) b := by
  unfold cutN
  rw [List.drop_take, List.drop_drop]
  congr 1
  omega
theorem cutN_all : cutN w 0 w.length = w := by
  unfold cutN
  rw [List.drop_zero, Nat.sub_zero, List.take_length]
theorem cut_wS (hb : b ≤ w.length) : cutS (wS w) (some (a : Int)) (some (b : Int)) = wS (cutN w a b) := by
  unfold cutS wS cutN
  have l : Str.length ⟨w.toArray⟩ = w.length := by simp [Str.length]
  simp only [l, HT.sIx_nat, Nat.min_eq_left hb]
  congr 2
  rcases Nat.le_total a w.length with c | c
  · rw [Nat.min_eq_left c]
  · rw [Nat.min_eq_right c, List.drop_of_length_le (Nat.le_refl _), List.drop_of_length_le c]
    simp
end
/-- a table of values by symbol, start and end -/
structure KnD (V : Nat → Nat → Nat → D) (kvs : List (List Int × D)) : Prop where
  val : ∀ p ∈ kvs, ∃ s a b : Nat, s < 6 ∧ a < 9 ∧ b < 9 ∧ p = ([(s : Int), (a : Int), (b : Int)], V s a b)
  nd : (kvs.map (·.1)).Nodup
section
variable {V : Nat → Nat → Nat → D} {kvs : List (List Int × D)} {s a b : Nat}
theorem KnD.nil : KnD V [] := ⟨(fun p hp => by cases hp), List.nodup_nil⟩
theorem KnD.get (k : KnD V kvs) {x : D} (e : getB kvs [(s : Int), (a : Int), (b : Int)] = some x) : x = V s a b := by
  unfold getB at e
  obtain ⟨p, hp, rfl⟩ := Option.map_eq_some_iff.mp e
  have h1 := List.find?_some hp
  have h2 := List.mem_of_find?_eq_some hp
  obtain ⟨s', a', b', _, _, _, e2⟩ := k.val p h2
  rw [e2] at h1 ⊢
  have h1 := of_decide_eq_true h1
  injection h1 with i1 h1
  injection h1 with i2 h1
  injection h1 with i3 h1
  have := Int.ofNat.inj i1
  have := Int.ofNat.inj i2
  have := Int.ofNat.inj i3
  subst_vars
  rfl
theorem KnD.put (k : KnD V kvs) (hs : s < 6) (ha : a < 9) (hb : b < 9) (e : getB kvs [(s : Int), (a : Int), (b : Int)] = none) : KnD V (putB kvs [(s : Int), (a : Int), (b : Int)] (V s a b)) := by
  rw [putB_new _ e]
  have no : [(s : Int), (a : Int), (b : Int)] ∉ kvs.map (·.1) := fun z => by
    obtain ⟨p, hp, e2⟩ := List.mem_map.mp z
    unfold getB at e
    rw [Option.map_eq_none_iff, List.find?_eq_none] at e
    exact e p hp (decide_eq_true e2)
  refine ⟨fun p hp => ?_, ?_⟩
  · rcases List.mem_append.mp hp with h | h
    · exact k.val p h
    · rw [List.mem_singleton.mp h]
      exact ⟨s, a, b, hs, ha, hb, rfl⟩
  · rw [List.map_append, List.nodup_append]
    refine ⟨k.nd, by simp, fun x hx y hy z => ?_⟩
    rw [List.mem_singleton.mp hy] at z
    exact no (by rw [← show x = [(s : Int), (a : Int), (b : Int)] from z]; exact hx)
theorem KnD.over (k : KnD V kvs) {x : D} (e : getB kvs [(s : Int), (a : Int), (b : Int)] = some x) : KnD V (putB kvs [(s : Int), (a : Int), (b : Int)] (V s a b)) := by
  have hx := k.get e
  have an : (kvs.any fun kv => decide (kv.1 = [(s : Int), (a : Int), (b : Int)])) = true := by rw [getB_any, e]; rfl
  have keys : (putB kvs [(s : Int), (a : Int), (b : Int)] (V s a b)).map (·.1) = kvs.map (·.1) := by
    unfold putB
    rw [if_pos an, List.map_map]
    refine List.map_congr_left fun p hp => ?_
    show (if p.1 = _ then (p.1, V s a b) else p).1 = p.1
    split <;> rfl
  refine ⟨fun p hp => ?_, by rw [keys]; exact k.nd⟩
  unfold putB at hp
  rw [if_pos an] at hp
  obtain ⟨q, hq, rfl⟩ := List.mem_map.mp hp
  obtain ⟨s', a', b', h1, h2, h3, e2⟩ := k.val q hq
  split
  · rename_i c
    rw [e2] at c ⊢
    injection c with i1 c
    injection c with i2 c
    injection c with i3 c
    have := Int.ofNat.inj i1
    have := Int.ofNat.inj i2
    have := Int.ofNat.inj i3
    subst_vars
    exact ⟨_, _, _, h1, h2, h3, rfl⟩
  · exact ⟨s', a', b', h1, h2, h3, e2⟩
theorem KnD.len (k : KnD V kvs) : kvs.length < 1000 := by
  have h := List.Nodup.length_le_of_subset (l₂ := (List.range 6).flatMap fun s : Nat => (List.range 9).flatMap fun a : Nat => (List.range 9).map fun b : Nat => [(s : Int), (a : Int), (b : Int)]) k.nd fun x hx => by
    obtain ⟨p, hp, rfl⟩ := List.mem_map.mp hx
    obtain ⟨s, a, b, hs, ha, hb, e⟩ := k.val p hp
    rw [e]
    exact List.mem_flatMap.mpr ⟨s, List.mem_range.mpr hs, List.mem_flatMap.mpr ⟨a, List.mem_range.mpr ha, List.mem_map.mpr ⟨b, List.mem_range.mpr hb, rfl⟩⟩⟩
  rw [List.length_map] at h
  have : ((List.range 6).flatMap fun s : Nat => (List.range 9).flatMap fun a : Nat => (List.range 9).map fun b : Nat => [(s : Int), (a : Int), (b : Int)]).length = 486 := by decide +kernel
  omega
end
def vI (gm : Gm) (w : List Nat) (s a b : Nat) : D := dr (vv gm (.v s) (cutN w a b))
def iF (gm : Gm) (w : List Nat) (kd : Nat) : List (Str × D) := [("grammar", dGm gm), ("word", .str (wS w)), ("known", .ref kd)]
structure isI (h : IH) (o kd : Nat) (gm : Gm) (w : List Nat) : Prop where
  ins : h[o]? = some (.ins "Inside" (iF gm w kd))
  ne : o ≠ kd
  dic : ∃ kvs, h[kd]? = some (.dit kvs) ∧ KnD (vI gm w) kvs
section
variable {h h' : IH} {o kd : Nat} {gm : Gm} {w : List Nat} {Q : D → IH → Prop} {X : Exc → IH → Prop}
theorem isI.ap (i : isI h o kd gm w) (A : Ap h h') : isI h' o kd gm w := ⟨A.get i.ins, i.ne, let ⟨k, a, b⟩ := i.dic; ⟨k, A.get a, b⟩⟩
theorem okF_1 {c f : Str} : okF [c] f c f = true := by simp [okF]
theorem isI.flds (i : isI h o kd gm w) : fldV (okF ["Inside"] "grammar") "grammar" h (.ref o) = .ok (dGm gm) h ∧ fldV (okF ["Inside"] "word") "word" h (.ref o) = .ok (.str (wS w)) h ∧ fldV (okF ["Inside"] "known") "known" h (.ref o) = .ok (.ref kd) h :=
  ⟨fldV_of i.ins okF_1 rfl, fldV_of i.ins okF_1 rfl, fldV_of i.ins okF_1 rfl⟩
theorem isI.mt (i : isI h o kd gm w) : isIn "Inside" "chance" h (.ref o) = true ∧ isIn "Inside" "row" h (.ref o) = true := ⟨isIn_of i.ins rfl, isIn_of i.ins rfl⟩
theorem A4' {h h1 h2 h3 h4 : IH} (A1 : Ap h h1) (U2 : Up h.length h1 h2) (U3 : Up h.length h2 h3) (A4 : Ap h3 h4) : Ap h h4 := (U3.ap (U2.ap A1 (Nat.le_refl _)) (Nat.le_refl _)).trans A4
theorem sl_wS {env : Ev} {H : IH} {ma mb me : ME} {a b : Nat} (hw : w.length ≤ 8) (hb : b ≤ w.length) (e1 : ma env H = .ok (.str (wS w)) H) (e2 : mb env H = .ok (iD a) H) (e3 : me env H = .ok (iD b) H) : slSM ma (someO mb) (someO me) env H = .ok (.str (wS (cutN w a b))) H := by
  unfold slSM
  rw [e1]
  simp only [R.bindG_ok]
  have z1 : someO mb env H = .ok (some (a : Int)) H := by simp [someO, e2, iD]
  have z2 : someO me env H = .ok (some (b : Int)) H := by simp [someO, e3, iD]
  rw [z1]
  simp only [R.bindG_ok]
  rw [z2]
  simp only [R.bindG_ok]
  rw [if_pos (by rw [wS_len, sizeLine_is]; omega), cut_wS hb]
/-- letters alone -/
def Lw (u : List Nat) : Prop := ∀ c ∈ u, 97 ≤ c ∧ c ≤ 122
theorem Lw.cut {u : List Nat} (l : Lw u) {a b : Nat} : Lw (cutN u a b) := fun c hc => l c (List.mem_of_mem_drop (List.mem_of_mem_take hc))
theorem Lw.pl {u : List Nat} (l : Lw u) : pln 16 (.str (wS u)) = true := by
  show PyData.strOk (wS u) = true
  unfold PyData.strOk wS
  simp only [List.all_toArray, List.all_eq_true, decide_eq_true_eq]
  intro c hc
  have := l c hc
  omega
open Classical in
theorem eq_wS {u v : List Nat} (hu : Lw u) (hv : Lw v) : eqM (.str (wS u)) (.str (wS v)) h = .ok (.bl (decide (u = v))) h := by
  rw [eqM_pl hu.pl hv.pl]
  congr 2
  rw [Bool.eq_iff_iff, decide_eq_true_eq, decide_eq_true_eq]
  constructor
  · intro e
    injection e with e
    exact wS_inj.mp e
  · rintro rfl
    rfl
theorem Up.refl {k : Nat} : Up k h h := ⟨rfl, fun _ _ => rfl⟩
theorem Up.trans {k : Nat} {h1 h2 h3 : IH} (a : Up k h1 h2) (b : Up k h2 h3) : Up k h1 h3 := ⟨b.len.trans a.len, fun i hi => (b.keep i hi).trans (a.keep i hi)⟩
theorem slT1 {env : Ev} {H : IH} {xs : List D} {x : D} {ma : ME} (e : ma env H = .ok (.tup (x :: xs)) H) : slM ma (someO (constM (.int 1))) noneO env H = .ok (.tup xs) H := by
  unfold slM
  rw [e]
  simp only [R.bindG_ok]
  have z1 : someO (constM (.int 1)) env H = .ok (some 1) H := rfl
  have z2 : noneO env H = .ok none H := rfl
  rw [z1]
  simp only [R.bindG_ok]
  rw [z2]
  simp only [R.bindG_ok]
  have := cutT_from1 (xs := x :: xs) (i := 1) (by simp)
  rw [show ((1 : Nat) : Int) = 1 from rfl] at this
  rw [this]
  rfl
end
end Zc
/-! G23D: the chance of a word. -/
namespace Zc
open PySem L2 Z Q
section
variable {h : IH} {Q : D → IH → Prop} {X : Exc → IH → Prop}
def okP : List Sy → Bool
  | [] => false
  | [.v _] => false
  | _ => true
def plR (rs : List Ru) : Bool := rs.all fun r => okP r.2
def plG (gm : Gm) : Bool := gm.all plR
theorem all_take {α : Type} {p : α → Bool} {xs : List α} {i : Nat} {x : α} (h : xs[i]? = some x) (t : (xs.take i).all p = true) (hx : p x = true) : (xs.take (i + 1)).all p = true := by
  rw [List.take_add_one, h, List.all_append, t]
  simpa using hx
theorem all_no {α : Type} {p : α → Bool} {xs : List α} {x : α} (h : x ∈ xs) (hx : p x = false) : xs.all p = false := by
  rw [List.all_eq_false]
  exact ⟨x, h, by simp [hx]⟩
theorem ev_is_plain {gm : Gm} (o : OkGm gm) : F_is_plain [dGm gm] h = .ok (.bl (plG gm)) h := by
  have cg := fun H : IH => ev_check_grammar (h := H) o
  have l6 := o.l6
  refine rp_to' ?_
  unfold F_is_plain M_is_plain
  refine rp_def ?_
  simp only [setsE_cons, setsE_nil, List.set_cons_zero, List.set_cons_succ, List.map_cons, List.map_nil, List.length_cons, List.length_nil, List.cons_append, List.nil_append, List.append_nil, List.replicate_succ, List.replicate_zero, Nat.zero_add, Nat.reduceAdd, Nat.reduceSub, wipeE_nil, wipeE_cons, ↓reduceIte, Bool.false_eq_true, Bool.not_true, Bool.not_false]
  (first | refine sp_seq ?_ | refine sp_set ?_ | refine sp_if ?_ | refine sp_ret ?_ | refine sp_expr ?_ | refine sp_asg ?_ | refine sp_next ?_ | refine sp_brk ?_ | refine sp_cont ?_ | refine sp_raise ?_ | refine sp_put ?_ | refine sp_retN ?_ | refine sp_par ?_ | refine sp_asgL ?_)
  try dsimp only
  (first | refine sp_seq ?_ | refine sp_set ?_ | refine sp_if ?_ | refine sp_ret ?_ | refine sp_expr ?_ | refine sp_asg ?_ | refine sp_next ?_ | refine sp_brk ?_ | refine sp_cont ?_ | refine sp_raise ?_ | refine sp_put ?_ | refine sp_retN ?_ | refine sp_par ?_ | refine sp_asgL ?_)
  try dsimp only
  conv => (arg 1; simp [okV_iD, okV_dr, okV_dPt, okV_dP, okV_dG, okV_dC, okV_dB, ix_wd, iD_def, okV_dGm, cg])
  refine rp_ok ?_
  try dsimp only
  try simp only [setsE_cons, setsE_nil, List.set_cons_zero, List.set_cons_succ, List.map_cons, List.map_nil, List.length_cons, List.length_nil, List.cons_append, List.nil_append, List.append_nil, List.replicate_succ, List.replicate_zero, Nat.zero_add, Nat.reduceAdd, Nat.reduceSub, wipeE_nil, wipeE_cons, ↓reduceIte, Bool.false_eq_true, Bool.not_true, Bool.not_false]
  (first | refine sp_seq ?_ | refine sp_set ?_ | refine sp_if ?_ | refine sp_ret ?_ | refine sp_expr ?_ | refine sp_asg ?_ | refine sp_next ?_ | refine sp_brk ?_ | refine sp_cont ?_ | refine sp_raise ?_ | refine sp_put ?_ | refine sp_retN ?_ | refine sp_par ?_ | refine sp_asgL ?_)
  try dsimp only
  refine sp_for (h1 := h) [1, 2, 3] gm dRs (fun i vs H => ∃ x1 x2 x3 : Option D, vs = [x1, x2, x3] ∧ (gm.take i).all plR = true ∧ H = h) (vs := [none, none, none]) (by simp [okV_dGm, dGm]) rfl ⟨_, _, _, rfl, rfl, rfl⟩ ?_ ?_
  · rintro i rs vs H hi ⟨x1, x2, x3, rfl, t, rfl⟩
    refine ⟨_, rfl, ?_⟩
    have rm := List.mem_of_getElem? hi
    have om := o.rs rs rm
    have l4 := om.l4
    try simp only [setsE_cons, setsE_nil, List.set_cons_zero, List.set_cons_succ, List.map_cons, List.map_nil, List.length_cons, List.length_nil, List.cons_append, List.nil_append, List.append_nil, List.replicate_succ, List.replicate_zero, Nat.zero_add, Nat.reduceAdd, Nat.reduceSub, wipeE_nil, wipeE_cons, ↓reduceIte, Bool.false_eq_true, Bool.not_true, Bool.not_false]
    refine sp_for (h1 := H) [2, 3] rs dRu (fun j vs K => ∃ x2 x3 : Option D, vs = [x2, x3] ∧ (rs.take j).all (fun r => okP r.2) = true ∧ K = H) (vs := [x2, x3]) (by simp [okV_dRs, dRs]) rfl ⟨_, _, rfl, rfl, rfl⟩ ?_ ?_
    · rintro j r vs K hj ⟨x2, x3, rfl, t2, rfl⟩
      refine ⟨_, rfl, ?_⟩
      have rm2 := List.mem_of_getElem? hj
      have rok := om.ru r rm2
      have ls : lenF [.tup (r.2.map dSy)] K = .ok (iD r.2.length) K := by
        rw [lenF_tup, List.length_map]; rfl
      have q0 : eqM (iD r.2.length) (.int 0) K = .ok (.bl (decide (r.2.length = 0))) K := eq_nat (b := 0)
      have q1 : eqM (iD r.2.length) (.int 1) K = .ok (.bl (decide (r.2.length = 1))) K := eq_nat (b := 1)
      have no : okP r.2 = false → tq K (fun d g => d = .bl (plG gm) ∧ g = K) (.bl false) K := fun e => tq_same ⟨by
        have : plG gm = false := all_no (p := plR) rm (all_no (p := fun r : Ru => okP r.2) rm2 e)
        rw [this], rfl⟩
      try simp only [setsE_cons, setsE_nil, List.set_cons_zero, List.set_cons_succ, List.map_cons, List.map_nil, List.length_cons, List.length_nil, List.cons_append, List.nil_append, List.append_nil, List.replicate_succ, List.replicate_zero, Nat.zero_add, Nat.reduceAdd, Nat.reduceSub, wipeE_nil, wipeE_cons, ↓reduceIte, Bool.false_eq_true, Bool.not_true, Bool.not_false]
      (first | refine sp_seq ?_ | refine sp_set ?_ | refine sp_if ?_ | refine sp_ret ?_ | refine sp_expr ?_ | refine sp_asg ?_ | refine sp_next ?_ | refine sp_brk ?_ | refine sp_cont ?_ | refine sp_raise ?_ | refine sp_put ?_ | refine sp_retN ?_ | refine sp_par ?_ | refine sp_asgL ?_)
      try dsimp only
      refine rp_tor ?_
      conv => (arg 1; simp [okV_iD, okV_dr, okV_dPt, okV_dP, okV_dG, okV_dC, okV_dB, ix_wd, iD_def, -lenF_tup, ls, q0])
      refine rp_ok ?_
      try dsimp only
      try simp only [setsE_cons, setsE_nil, List.set_cons_zero, List.set_cons_succ, List.map_cons, List.map_nil, List.length_cons, List.length_nil, List.cons_append, List.nil_append, List.append_nil, List.replicate_succ, List.replicate_zero, Nat.zero_add, Nat.reduceAdd, Nat.reduceSub, wipeE_nil, wipeE_cons, ↓reduceIte, Bool.false_eq_true, Bool.not_true, Bool.not_false]
      obtain ⟨w, ss⟩ := r
      match ss, rok, ls, q0, q1, no, hj, rm2 with
      | [], rok, ls, q0, q1, no, hj, rm2 =>
        simp only [List.length_nil, decide_true, if_true]
        (first | refine sp_seq ?_ | refine sp_set ?_ | refine sp_if ?_ | refine sp_ret ?_ | refine sp_expr ?_ | refine sp_asg ?_ | refine sp_next ?_ | refine sp_brk ?_ | refine sp_cont ?_ | refine sp_raise ?_ | refine sp_put ?_ | refine sp_retN ?_ | refine sp_par ?_ | refine sp_asgL ?_)
        try dsimp only
        conv => (arg 1; simp [okV_iD, okV_dr, okV_dPt, okV_dP, okV_dG, okV_dC, okV_dB, ix_wd, iD_def])
        refine rp_ok ?_
        try dsimp only
        try simp only [setsE_cons, setsE_nil, List.set_cons_zero, List.set_cons_succ, List.map_cons, List.map_nil, List.length_cons, List.length_nil, List.cons_append, List.nil_append, List.append_nil, List.replicate_succ, List.replicate_zero, Nat.zero_add, Nat.reduceAdd, Nat.reduceSub, wipeE_nil, wipeE_cons, ↓reduceIte, Bool.false_eq_true, Bool.not_true, Bool.not_false]
        exact no rfl
      | [.v k], rok, ls, q0, q1, no, hj, rm2 =>
        simp only [List.length_cons, List.length_nil, Nat.zero_add, Nat.one_ne_zero, decide_false, Bool.false_eq_true, if_false]
        have os := rok.sy (.v k) (by simp)
        have el : F_is_letter [dSy (.v k)] K = .ok (.bl false) K := ev_is_letter os
        refine rp_tand ?_
        conv => (arg 1; simp [okV_iD, okV_dr, okV_dPt, okV_dP, okV_dG, okV_dC, okV_dB, ix_wd, iD_def])
        refine rp_ok ?_
        try dsimp only
        try simp only [setsE_cons, setsE_nil, List.set_cons_zero, List.set_cons_succ, List.map_cons, List.map_nil, List.length_cons, List.length_nil, List.cons_append, List.nil_append, List.append_nil, List.replicate_succ, List.replicate_zero, Nat.zero_add, Nat.reduceAdd, Nat.reduceSub, wipeE_nil, wipeE_cons, ↓reduceIte, Bool.false_eq_true, Bool.not_true, Bool.not_false]
        refine rp_tnot (rp_test (rp_call (rp_acons ?_)))
        conv => (arg 1; simp [okV_iD, okV_dr, okV_dPt, okV_dP, okV_dG, okV_dC, okV_dB, ix_wd, iD_def, okV_dSy])
        refine rp_ok ?_
        try dsimp only
        try simp only [setsE_cons, setsE_nil, List.set_cons_zero, List.set_cons_succ, List.map_cons, List.map_nil, List.length_cons, List.length_nil, List.cons_append, List.nil_append, List.append_nil, List.replicate_succ, List.replicate_zero, Nat.zero_add, Nat.reduceAdd, Nat.reduceSub, wipeE_nil, wipeE_cons, ↓reduceIte, Bool.false_eq_true, Bool.not_true, Bool.not_false]
        refine rp_anil ?_
        refine rp_eq (el) ?_
        try dsimp only
        try simp only [setsE_cons, setsE_nil, List.set_cons_zero, List.set_cons_succ, List.map_cons, List.map_nil, List.length_cons, List.length_nil, List.cons_append, List.nil_append, List.append_nil, List.replicate_succ, List.replicate_zero, Nat.zero_add, Nat.reduceAdd, Nat.reduceSub, wipeE_nil, wipeE_cons, ↓reduceIte, Bool.false_eq_true, Bool.not_true, Bool.not_false]
        refine ⟨_, rfl, ?_⟩
        try dsimp only
        (first | refine sp_seq ?_ | refine sp_set ?_ | refine sp_if ?_ | refine sp_ret ?_ | refine sp_expr ?_ | refine sp_asg ?_ | refine sp_next ?_ | refine sp_brk ?_ | refine sp_cont ?_ | refine sp_raise ?_ | refine sp_put ?_ | refine sp_retN ?_ | refine sp_par ?_ | refine sp_asgL ?_)
        try dsimp only
        conv => (arg 1; simp [okV_iD, okV_dr, okV_dPt, okV_dP, okV_dG, okV_dC, okV_dB, ix_wd, iD_def])
        refine rp_ok ?_
        try dsimp only
        try simp only [setsE_cons, setsE_nil, List.set_cons_zero, List.set_cons_succ, List.map_cons, List.map_nil, List.length_cons, List.length_nil, List.cons_append, List.nil_append, List.append_nil, List.replicate_succ, List.replicate_zero, Nat.zero_add, Nat.reduceAdd, Nat.reduceSub, wipeE_nil, wipeE_cons, ↓reduceIte, Bool.false_eq_true, Bool.not_true, Bool.not_false]
        exact no rfl
      | [.l c], rok, ls, q0, q1, no, hj, rm2 =>
        simp only [List.length_cons, List.length_nil, Nat.zero_add, Nat.one_ne_zero, decide_false, Bool.false_eq_true, if_false]
        have os := rok.sy (.l c) (by simp)
        have el : F_is_letter [dSy (.l c)] K = .ok (.bl true) K := ev_is_letter os
        refine rp_tand ?_
        conv => (arg 1; simp [okV_iD, okV_dr, okV_dPt, okV_dP, okV_dG, okV_dC, okV_dB, ix_wd, iD_def])
        refine rp_ok ?_
        try dsimp only
        try simp only [setsE_cons, setsE_nil, List.set_cons_zero, List.set_cons_succ, List.map_cons, List.map_nil, List.length_cons, List.length_nil, List.cons_append, List.nil_append, List.append_nil, List.replicate_succ, List.replicate_zero, Nat.zero_add, Nat.reduceAdd, Nat.reduceSub, wipeE_nil, wipeE_cons, ↓reduceIte, Bool.false_eq_true, Bool.not_true, Bool.not_false]
        refine rp_tnot (rp_test (rp_call (rp_acons ?_)))
        conv => (arg 1; simp [okV_iD, okV_dr, okV_dPt, okV_dP, okV_dG, okV_dC, okV_dB, ix_wd, iD_def, okV_dSy])
        refine rp_ok ?_
        try dsimp only
        try simp only [setsE_cons, setsE_nil, List.set_cons_zero, List.set_cons_succ, List.map_cons, List.map_nil, List.length_cons, List.length_nil, List.cons_append, List.nil_append, List.append_nil, List.replicate_succ, List.replicate_zero, Nat.zero_add, Nat.reduceAdd, Nat.reduceSub, wipeE_nil, wipeE_cons, ↓reduceIte, Bool.false_eq_true, Bool.not_true, Bool.not_false]
        refine rp_anil ?_
        refine rp_eq (el) ?_
        try dsimp only
        try simp only [setsE_cons, setsE_nil, List.set_cons_zero, List.set_cons_succ, List.map_cons, List.map_nil, List.length_cons, List.length_nil, List.cons_append, List.nil_append, List.append_nil, List.replicate_succ, List.replicate_zero, Nat.zero_add, Nat.reduceAdd, Nat.reduceSub, wipeE_nil, wipeE_cons, ↓reduceIte, Bool.false_eq_true, Bool.not_true, Bool.not_false]
        refine ⟨_, rfl, ?_⟩
        try dsimp only
        (first | refine sp_seq ?_ | refine sp_set ?_ | refine sp_if ?_ | refine sp_ret ?_ | refine sp_expr ?_ | refine sp_asg ?_ | refine sp_next ?_ | refine sp_brk ?_ | refine sp_cont ?_ | refine sp_raise ?_ | refine sp_put ?_ | refine sp_retN ?_ | refine sp_par ?_ | refine sp_asgL ?_)
        try dsimp only
        exact turn_next (vs := [_, _]) rfl ⟨_, _, rfl, all_take hj t2 rfl, rfl⟩
      | a :: b :: ss, rok, ls, q0, q1, no, hj, rm2 =>
        have n0 : ¬ (a :: b :: ss).length = 0 := by simp
        have n1 : ¬ (a :: b :: ss).length = 1 := by simp
        simp only [n0, decide_false, Bool.false_eq_true, if_false]
        refine rp_tand (rp_btest (rp_bin (rp_call (rp_acons ?_))))
        refine rp_eq (show varM 3 _ K = .ok (.tup ((a :: b :: ss).map dSy)) K from rfl) (rp_anil (rp_eq ls ?_))
        refine rp_ok ?_
        refine rp_eq q1 ⟨_, rfl, ?_⟩
        have n1' : decide ((w, a :: b :: ss).2.length = 1) = false := decide_eq_false n1
        rw [n1']
        try dsimp only
        (first | refine sp_seq ?_ | refine sp_set ?_ | refine sp_if ?_ | refine sp_ret ?_ | refine sp_expr ?_ | refine sp_asg ?_ | refine sp_next ?_ | refine sp_brk ?_ | refine sp_cont ?_ | refine sp_raise ?_ | refine sp_put ?_ | refine sp_retN ?_ | refine sp_par ?_ | refine sp_asgL ?_)
        try dsimp only
        exact turn_next (vs := [_, _]) rfl ⟨_, _, rfl, all_take hj t2 (by cases a <;> rfl), rfl⟩
    · rintro vs K ⟨x2, x3, rfl, t2, rfl⟩
      rw [List.take_length] at t2
      exact turn_next (vs := [_, _, _]) rfl ⟨_, _, _, rfl, all_take hi t t2, rfl⟩
  · rintro vs H ⟨x1, x2, x3, rfl, t, rfl⟩
    rw [List.take_length] at t
    try simp only [setsE_cons, setsE_nil, List.set_cons_zero, List.set_cons_succ, List.map_cons, List.map_nil, List.length_cons, List.length_nil, List.cons_append, List.nil_append, List.append_nil, List.replicate_succ, List.replicate_zero, Nat.zero_add, Nat.reduceAdd, Nat.reduceSub, wipeE_nil, wipeE_cons, ↓reduceIte, Bool.false_eq_true, Bool.not_true, Bool.not_false]
    (first | refine sp_seq ?_ | refine sp_set ?_ | refine sp_if ?_ | refine sp_ret ?_ | refine sp_expr ?_ | refine sp_asg ?_ | refine sp_next ?_ | refine sp_brk ?_ | refine sp_cont ?_ | refine sp_raise ?_ | refine sp_put ?_ | refine sp_retN ?_ | refine sp_par ?_ | refine sp_asgL ?_)
    try dsimp only
    conv => (arg 1; simp [okV_iD, okV_dr, okV_dPt, okV_dP, okV_dG, okV_dC, okV_dB, ix_wd, iD_def])
    refine rp_ok ?_
    try dsimp only
    try simp only [setsE_cons, setsE_nil, List.set_cons_zero, List.set_cons_succ, List.map_cons, List.map_nil, List.length_cons, List.length_nil, List.cons_append, List.nil_append, List.append_nil, List.replicate_succ, List.replicate_zero, Nat.zero_add, Nat.reduceAdd, Nat.reduceSub, wipeE_nil, wipeE_cons, ↓reduceIte, Bool.false_eq_true, Bool.not_true, Bool.not_false]
    exact tq_same ⟨by rw [show plG gm = true from t], rfl⟩
theorem PlS.okP {ss : List Sy} (h : PlS ss) : okP ss = true := by
  rcases h with ⟨c, rfl⟩ | h
  · rfl
  · match ss, h with
    | a :: b :: ss, _ => cases a <;> rfl
theorem Pg.plG {gm : Gm} (pg : Pg gm) : plG gm = true := List.all_eq_true.mpr fun rs h => List.all_eq_true.mpr fun r hr => (pg.pl rs h r hr).okP
theorem ev_check_plain2 {gm : Gm} (pg : Pg gm) : F_check_plain [dGm gm] h = .ok .non h := by
  have p := ev_is_plain (h := h) pg.ok
  rw [pg.plG] at p
  simp [F_check_plain, M_check_plain, defM, okV_dGm, p]
theorem let_w {c : Nat} (h1 : 97 ≤ c) (h2 : c ≤ 122) : F_is_letter [.str ⟨#[c]⟩] h = .ok (.bl true) h := ev_is_letter (many := 1) (s := .l c) ⟨h1, h2⟩
theorem ev_check_word {w : List Nat} (lw : Lw w) (l8 : w.length ≤ 8) : F_check_word [.str (wS w), .int 8] h = .ok .non h := by
  have le : ∀ H : IH, lenF [.str (wS w)] H = .ok (iD w.length) H := fun H => len_wS (by omega)
  have gt : ∀ H : IH, gtM (iD w.length) (.int 8) H = .ok (.bl false) H := fun H => by
    have := gt_nat (a := w.length) (b := 8) (h := H)
    rw [decide_eq_false (by omega)] at this
    exact this
  refine rp_to' ?_
  unfold F_check_word M_check_word
  refine rp_def ?_
  simp only [setsE_cons, setsE_nil, List.set_cons_zero, List.set_cons_succ, List.map_cons, List.map_nil, List.length_cons, List.length_nil, List.cons_append, List.nil_append, List.append_nil, List.replicate_succ, List.replicate_zero, Nat.zero_add, Nat.reduceAdd, Nat.reduceSub, wipeE_nil, wipeE_cons, ↓reduceIte, Bool.false_eq_true, Bool.not_true, Bool.not_false]
  (first | refine sp_seq ?_ | refine sp_set ?_ | refine sp_if ?_ | refine sp_ret ?_ | refine sp_expr ?_ | refine sp_asg ?_ | refine sp_next ?_ | refine sp_brk ?_ | refine sp_cont ?_ | refine sp_raise ?_ | refine sp_put ?_ | refine sp_retN ?_ | refine sp_par ?_ | refine sp_asgL ?_)
  try dsimp only
  refine rp_tor ?_
  conv => (arg 1; simp [okV_iD, okV_dr, okV_dPt, okV_dP, okV_dG, okV_dC, okV_dB, ix_wd, iD_def, tyN])
  refine rp_ok ?_
  try dsimp only
  try simp only [setsE_cons, setsE_nil, List.set_cons_zero, List.set_cons_succ, List.map_cons, List.map_nil, List.length_cons, List.length_nil, List.cons_append, List.nil_append, List.append_nil, List.replicate_succ, List.replicate_zero, Nat.zero_add, Nat.reduceAdd, Nat.reduceSub, wipeE_nil, wipeE_cons, ↓reduceIte, Bool.false_eq_true, Bool.not_true, Bool.not_false]
  refine rp_tor ?_
  conv => (arg 1; simp [okV_iD, okV_dr, okV_dPt, okV_dP, okV_dG, okV_dC, okV_dB, ix_wd, iD_def, okV_wS, le, gt])
  refine rp_ok ?_
  try dsimp only
  try simp only [setsE_cons, setsE_nil, List.set_cons_zero, List.set_cons_succ, List.map_cons, List.map_nil, List.length_cons, List.length_nil, List.cons_append, List.nil_append, List.append_nil, List.replicate_succ, List.replicate_zero, Nat.zero_add, Nat.reduceAdd, Nat.reduceSub, wipeE_nil, wipeE_cons, ↓reduceIte, Bool.false_eq_true, Bool.not_true, Bool.not_false]
  refine rp_tnot (rp_test (rp_call (rp_acons ?_)))
  refine rp_lc (h1 := h) w (fun c => .str ⟨#[c]⟩) (fun c => .bl true) (by simp [strI, okV_wS]; simp [signD, wS]) (by omega) (fun c hc => ⟨_, rfl, ?_⟩) ?_
  · have e := let_w (h := h) (lw c hc).1 (lw c hc).2
    conv => (arg 1; simp [okV_iD, okV_dr, okV_dPt, okV_dP, okV_dG, okV_dC, okV_dB, ix_wd, iD_def, wipeE_cons, wipeE_nil, e])
    refine rp_ok ?_
    try dsimp only
    try simp only [setsE_cons, setsE_nil, List.set_cons_zero, List.set_cons_succ, List.map_cons, List.map_nil, List.length_cons, List.length_nil, List.cons_append, List.nil_append, List.append_nil, List.replicate_succ, List.replicate_zero, Nat.zero_add, Nat.reduceAdd, Nat.reduceSub, wipeE_nil, wipeE_cons, ↓reduceIte, Bool.false_eq_true, Bool.not_true, Bool.not_false]
    all_goals (first | exact ⟨rfl, rfl⟩ | exact ⟨rfl, trivial⟩ | exact ⟨trivial, rfl⟩ | rfl | trivial)
  · intro k h4 A4 q4 l4 _
    refine rp_anil ?_
    refine rp_eq ((allF_true q4)) ?_
    try dsimp only
    try simp only [setsE_cons, setsE_nil, List.set_cons_zero, List.set_cons_succ, List.map_cons, List.map_nil, List.length_cons, List.length_nil, List.cons_append, List.nil_append, List.append_nil, List.replicate_succ, List.replicate_zero, Nat.zero_add, Nat.reduceAdd, Nat.reduceSub, wipeE_nil, wipeE_cons, ↓reduceIte, Bool.false_eq_true, Bool.not_true, Bool.not_false]
    refine ⟨_, rfl, ?_⟩
    try dsimp only
    (first | refine sp_seq ?_ | refine sp_set ?_ | refine sp_if ?_ | refine sp_ret ?_ | refine sp_expr ?_ | refine sp_asg ?_ | refine sp_next ?_ | refine sp_brk ?_ | refine sp_cont ?_ | refine sp_raise ?_ | refine sp_put ?_ | refine sp_retN ?_ | refine sp_par ?_ | refine sp_asgL ?_)
    try dsimp only
    exact tq_ap A4 rfl ⟨rfl, rfl⟩
end
end Zc
/-! G18Q: the same data are equal (was the end of G18D). -/
namespace Zc
open PySem L2 Z Q
section
variable {h : IH} {g : Gr}
/-! ### the same data are equal -/
def pls : Nat → D → Bool
  | 0, _ => false
  | k + 1, d => match d with
    | .int _ => true
    | .str x => PyData.strOk x
    | .tup ds => decide (ds.length ≤ 1000) && ds.all (pls k)
    | _ => false
theorem eq_pls : ∀ (k : Nat) (d : D), pls k d = true → F__law_equal_r k [d, d] h = .ok (.bl true) h
  | 0, _, c => by cases c
  | k + 1, .int i, _ => by
    have := eq_int (k := k) (i := i) (j := i) (h := h)
    simpa using this
  | k + 1, .str y, c => eq_str (eqM_same (show pln 16 (.str y) = true from c))
  | k + 1, .tup ds, c => by
    have c : (decide (ds.length ≤ 1000) && ds.all (pls k)) = true := c
    rw [Bool.and_eq_true, decide_eq_true_eq, List.all_eq_true] at c
    exact eq_tup rfl (by omega) fun i h1 h2 => eq_pls k _ (c.2 _ (List.getElem_mem h1))
end
end Zc
/-! G23E: words drawn. -/
namespace Zc
open PySem L2 Z Q
section
variable {h : IH} {Q : D → IH → Prop} {X : Exc → IH → Prop} {env : Ev} {me : ME}
theorem rp_joinL {a : Str} (H : rp (me env h) (fun d h => ∃ (k : Nat) (ys : List Str), d = .ref k ∧ h[k]? = some (.lst (ys.map D.str)) ∧ (ys.map (·.length)).sum + ys.length * a.length ≤ 16777216 ∧ Q (.str (Txt.join a ys)) h) X) : rp (joinM (constM (.str a)) me env h) Q X := by
  unfold joinM
  rw [constM_eq]
  simp only [R.bindG_ok]
  refine rp_bind ?_
  refine rp_mono H (fun d g q => ?_) fun _ _ q => q
  obtain ⟨k, ys, rfl, q1, q2, q3⟩ := q
  dsimp only
  rw [lisOf_ref q1]
  dsimp only
  unfold joinD
  rw [strsD_map]
  dsimp only
  rw [if_pos q2]
  exact rp_ok q3
theorem wS_cons {c : Nat} {u : List Nat} : wS (c :: u) = (⟨#[c]⟩ : Str) ++ wS u := by
  have := wS_app (u := [c]) (v := u)
  exact this.symm
theorem join_wS : ∀ u : List Nat, Txt.join "" (u.map fun c => (⟨#[c]⟩ : Str)) = wS u
  | [] => rfl
  | [c] => rfl
  | c :: d :: u => by
    have ih := join_wS (d :: u)
    rw [wS_cons, ← ih]
    rw [TL.join_eq, TL.join_eq]
    show (⟨#[c]⟩ : Str) ++ ("" : Str) ++ Str.join "" ((d :: u).map fun c => (⟨#[c]⟩ : Str)) = _
    congr 1
theorem ev_word {n c lt s : Nat} {ms ma : MA} {h1 : IH} (w : St n h1) (hn : n + c ≤ NM) (e1 : ms env h = .ok [iD c] h1) (hc : c ≤ 8) (l1 : 0 < lt) (l3 : lt ≤ 3) (em : ∀ H x, ma ((wipeE env [s]).set s (some x)) H = .ok [.ref 1, iD lt] H) (ls : s < env.length) (fin : ∀ u H, Lw u → u.length = c → Gw (n + c) h1 H → Q (.str (wS u)) H) : rp (joinM (constM (.str "")) (lcM (rngI1 ms) [s] (gnameM s) yesM (binM ixM (constM (.str "azm")) (callM F__law_next ma))) env h) Q X := by
  refine rp_joinL ?_
  refine rp_lcJ (h1 := h1) (List.range c) iD (fun t acc H => ∃ u : List Nat, acc = u.map (fun c => D.str ⟨#[c]⟩) ∧ u.length = t ∧ Lw u ∧ Gw (n + t) h1 H) (rng_n e1 (by omega)) (by simp; omega) ⟨[], rfl, rfl, (fun c hc => by cases hc), .refl w⟩ ?_ ?_
  · rintro t x acc H ht ⟨u, rfl, ul, lu, g⟩
    obtain ⟨rfl, hi⟩ := range_at ht
    obtain ⟨b, H2, e2, b3, g2, n2⟩ := ev_dn (k := lt) g.st (by omega) l1 (by omega)
    obtain ⟨c2, ix, c3, c4⟩ := azm (h := H2) (b := b) (by omega)
    refine ⟨_, rfl, rp_ok ?_⟩
    refine rp_bin (rp_eq (constM_eq ..) (rp_call (rp_eq (em _ _) (rp_eq e2 (rp_eq ix ?_)))))
    exact ⟨u ++ [c2], by rw [List.map_append]; rfl, by simp [ul], fun x hx => (List.mem_append.mp hx).elim (lu x) fun z => by rw [List.mem_singleton.mp z]; exact ⟨c3, c4⟩, (g.trans g2).mono (by omega)⟩
  · rintro ys H ⟨u, rfl, ul, lu, g⟩ k H2 A q l _
    rw [List.length_range] at ul g
    refine ⟨k, u.map fun c => ⟨#[c]⟩, rfl, by rw [q, List.map_map]; rfl, ?_, ?_⟩
    · have z : ((u.map fun c => (⟨#[c]⟩ : Str)).map (·.length)) = u.map fun _ => 1 := by rw [List.map_map]; rfl
      rw [z, List.length_map]
      have : ∀ v : List Nat, (v.map fun _ => 1).sum = v.length := fun v => by induction v with | nil => rfl | cons x v ih => rw [List.map_cons, List.sum_cons, ih, List.length_cons]; omega
      rw [this]
      show u.length + u.length * 0 ≤ _
      omega
    · rw [join_wS]
      exact fin u H2 lu ul (g.trans (A.gw g.st))
/-- lists of the same data are equal -/
theorem eq_listsW {k1 k2 : Nat} {xs : List D} (h1 : h[k1]? = some (.lst xs)) (h2 : h[k2]? = some (.lst xs)) (hl : xs.length ≤ 1000) (hp : ∀ d ∈ xs, pls 9 d = true) : F__law_equal [.ref k1, .ref k2] h = .ok (.bl true) h :=
  eq_ref (k := 9) h1 h2 rfl (by omega) fun i a b => eq_pls 9 _ (hp _ (List.getElem_mem a))
/-! ### sums -/
theorem trD_lw {gm : Gm} (pg : Pg gm) : ∀ n s M, OkSy gm.length s → ∀ t ∈ trD gm n s M, Lw t.2.1
  | n, .l c, M, os, t, ht => by
    rw [trD_let] at ht
    split at ht
    · have : t = (1, [c], []) := by simpa using ht
      rw [this]
      exact fun x hx => by rw [List.mem_singleton.mp hx]; exact os
    · cases ht
  | 0, .v k, M, os, t, ht => by cases ht
  | n + 1, .v k, M, os, t, ht => by
    unfold trD at ht
    obtain ⟨r, hr, ht⟩ := List.mem_flatMap.mp ht
    have hm := List.mem_zipIdx' (x := r.1) (i := r.2) hr
    have hr1 : r.1 ∈ gm.getD k [] := by rw [hm.2]; exact List.getElem_mem _
    obtain ⟨rs, h1, h2, _⟩ := getD_mem hr1
    have sy := ((pg.ok.rs rs h1).ru r.1 h2).sy
    have key : ∀ (ss : List Sy) (L : Nat), (∀ s ∈ ss, OkSy gm.length s) → ∀ d ∈ rwD (trD gm n) ss L, Lw d.2.1 := fun ss => by
      induction ss with
      | nil =>
        intro L _ d hd
        have : d = oneD := by simpa [rwD] using hd
        rw [this]
        exact fun x hx => by cases hx
      | cons s ss ih =>
        intro L os d hd
        obtain ⟨t, ht, hd⟩ := List.mem_flatMap.mp hd
        obtain ⟨r, hr, rfl⟩ := List.mem_map.mp hd
        have a := trD_lw pg n s _ (os s List.mem_cons_self) t ht
        have b := ih _ (fun x hx => os x (List.mem_cons_of_mem _ hx)) r hr
        exact fun x hx => (List.mem_append.mp hx).elim (a x) (b x)
    split at ht
    · obtain ⟨d, hd, rfl⟩ := List.mem_map.mp ht
      exact key r.1.2 M sy d hd
    · cases ht
/-- what the law's list of derivations is -/
structure TrOk (ds : List Dv) (M : Nat) : Prop where
  le : ds.length ≤ 59049
  lw : ∀ d ∈ ds, Lw d.2.1
  lo : ∀ d ∈ ds, 1 ≤ d.2.1.length
  hi : ∀ d ∈ ds, d.2.1.length ≤ M
  sz : ∀ d ∈ ds, Uf 9 d.1
theorem trD_tr {gm : Gm} (pg : Pg gm) {n M : Nat} (h1 : 1 ≤ M) (h5 : M ≤ 5) : TrOk (trD gm n (.v 0) M) M where
  le := by
    have a := trD_wt pg n (.v 0) M 5 h1 h5
    have b := wt_len (K := 5) (ds := trD gm n (.v 0) M)
    omega
  lw := trD_lw pg n _ M (show 0 < gm.length from pg.ok.l1)
  lo := fun d hd => (trD_ok pg n _ M d hd).1
  hi := fun d hd => (trD_ok pg n _ M d hd).2
  sz := fun d hd => (trD_sz pg n _ M d hd).to (by have := (trD_ok pg n _ M d hd).2; omega)
end
end Zc
/-! G27P: best derivations, plain. -/
namespace Zc
open PySem L2 Z Q
/-! ### order of outlines -/
def plt (x y : Nat × Nat) : Bool := if x.1 = y.1 then decide (x.2 < y.2) else decide (x.1 < y.1)
def olt : List (Nat × Nat) → List (Nat × Nat) → Bool
  | [], [] => false
  | [], _ :: _ => true
  | _ :: _, [] => false
  | x :: xs, y :: ys => if x = y then olt xs ys else plt x y
section
variable {x y z : Nat × Nat}
theorem plt_irrefl : plt x x = false := by unfold plt; simp
theorem plt_asymm (h : plt x y = true) : plt y x = false := by
  unfold plt at *
  by_cases c : x.1 = y.1
  · rw [if_pos c] at h
    rw [if_pos c.symm]
    simp at h ⊢
    omega
  · rw [if_neg c] at h
    rw [if_neg fun z => c z.symm]
    simp at h ⊢
    omega
theorem plt_total (h : x ≠ y) : plt x y = true ∨ plt y x = true := by
  unfold plt
  by_cases c : x.1 = y.1
  · rw [if_pos c, if_pos c.symm]
    simp
    have : x.2 ≠ y.2 := fun z => h (Prod.ext c z)
    omega
  · rw [if_neg c, if_neg fun z => c z.symm]
    simp
    omega
theorem plt_trans (h : plt x y = true) (g : plt y z = true) : plt x z = true := by
  unfold plt at *
  by_cases c1 : x.1 = y.1
  · rw [if_pos c1] at h
    by_cases c2 : y.1 = z.1
    · rw [if_pos c2] at g
      rw [if_pos (c1.trans c2)]
      simp at *
      omega
    · rw [if_neg c2] at g
      rw [if_neg (by omega)]
      simp at *
      omega
  · rw [if_neg c1] at h
    by_cases c2 : y.1 = z.1
    · rw [if_pos c2] at g
      rw [if_neg (by omega)]
      simp at *
      omega
    · rw [if_neg c2] at g
      simp at h g
      rw [if_neg (by omega)]
      simp
      omega
end
theorem olt_asymm : ∀ {a b}, olt a b = true → olt b a = false
  | [], [], h => by cases h
  | [], _ :: _, _ => rfl
  | _ :: _, [], h => by cases h
  | x :: xs, y :: ys, h => by
    unfold olt at h ⊢
    by_cases c : x = y
    · rw [if_pos c] at h
      rw [if_pos c.symm]
      exact olt_asymm h
    · rw [if_neg c] at h
      rw [if_neg fun z => c z.symm]
      exact plt_asymm h
theorem olt_total : ∀ {a b}, a ≠ b → olt a b = true ∨ olt b a = true
  | [], [], h => absurd rfl h
  | [], _ :: _, _ => .inl rfl
  | _ :: _, [], _ => .inr rfl
  | x :: xs, y :: ys, h => by
    unfold olt
    by_cases c : x = y
    · rw [if_pos c, if_pos c.symm]
      exact olt_total fun z => h (by rw [c, z])
    · rw [if_neg c, if_neg fun z => c z.symm]
      exact plt_total c
theorem olt_trans : ∀ {a b c}, olt a b = true → olt b c = true → olt a c = true
  | [], [], _, h, _ => by cases h
  | _ :: _, [], _, h, _ => by cases h
  | _, _ :: _, [], _, g => by cases g
  | [], _ :: _, _ :: _, _, _ => rfl
  | x :: xs, y :: ys, z :: zs, h, g => by
    unfold olt at *
    by_cases c1 : x = y
    · rw [if_pos c1] at h
      by_cases c2 : y = z
      · rw [if_pos c2] at g
        rw [if_pos (c1.trans c2)]
        exact olt_trans h g
      · rw [if_neg c2] at g
        rw [c1, if_neg c2]
        exact g
    · rw [if_neg c1] at h
      by_cases c2 : y = z
      · rw [← c2, if_neg c1]
        exact h
      · rw [if_neg c2] at g
        have t := plt_trans h g
        rw [if_neg fun e => by rw [e, plt_irrefl] at t; cases t]
        exact t
theorem olt_app : ∀ {a x y}, olt (a ++ x) (a ++ y) = olt x y
  | [], x, y => rfl
  | p :: a, x, y => by
    show (if p = p then olt (a ++ x) (a ++ y) else _) = _
    rw [if_pos rfl]
    exact olt_app
theorem olt_ext : ∀ {a b x y : List (Nat × Nat)}, olt a b = true → (∀ z, b = a ++ z → z = []) → olt (a ++ x) (b ++ y) = true
  | [], [], x, y, h, _ => by cases h
  | [], p :: b, x, y, _, n => by cases n (p :: b) rfl
  | _ :: _, [], _, _, h, _ => by cases h
  | p :: a, q :: b, x, y, h, n => by
    unfold olt at h
    show (if p = q then olt (a ++ x) (b ++ y) else plt p q) = true
    by_cases c : p = q
    · rw [if_pos c] at h ⊢
      exact olt_ext h fun z e => n z (by rw [c, e]; rfl)
    · rw [if_neg c] at h ⊢
      exact h
/-! ### candidates -/
abbrev Cd := Rat × List (Nat × Nat)
theorem rlt_trans {a b c : Rat} (h : a < b) (g : b < c) : a < c := by grind
theorem rlt_le {a b c : Rat} (h : a < b) (g : b ≤ c) : a < c := by grind
theorem rle_cases {a b : Rat} (h : a ≤ b) : a < b ∨ a = b := by grind
theorem rlt_irr {a : Rat} : ¬ a < a := by grind
/-- a is better -/
def bt (a b : Cd) : Prop := b.1 < a.1 ∨ (a.1 = b.1 ∧ olt a.2 b.2 = true)
theorem bt_asymm {a b : Cd} (h : bt a b) : ¬ bt b a := fun g => by
  rcases h with h | ⟨h1, h2⟩ <;> rcases g with g | ⟨g1, g2⟩
  · exact absurd (rlt_trans h g) rlt_irr
  · rw [g1] at h; exact absurd h rlt_irr
  · rw [h1] at g; exact absurd g rlt_irr
  · rw [olt_asymm h2] at g2; cases g2
theorem bt_trans {a b c : Cd} (h : bt a b) (g : bt b c) : bt a c := by
  rcases h with h | ⟨h1, h2⟩ <;> rcases g with g | ⟨g1, g2⟩
  · exact .inl (rlt_trans g h)
  · exact .inl (by rw [← g1]; exact h)
  · exact .inl (by rw [h1]; exact g)
  · exact .inr ⟨h1.trans g1, olt_trans h2 g2⟩
theorem bt_total {a b : Cd} (h : ¬ bt a b) (g : ¬ bt b a) : a = b := by
  have e1 : a.1 = b.1 := by
    rcases rle_cases (Rat.not_lt.mp fun z => g (.inl z)) with z | z
    · exact absurd (Or.inl z) h
    · exact z.symm
  refine Prod.ext e1 ?_
  rcases Classical.em (a.2 = b.2) with z | z
  · exact z
  · rcases olt_total z with y | y
    · exact absurd (Or.inr ⟨e1, y⟩) h
    · exact absurd (Or.inr ⟨e1.symm, y⟩) g
/-- the best of a set -/
def isBest (S : Cd → Prop) : Option Cd → Prop
  | none => ∀ c, ¬ S c
  | some a => S a ∧ ∀ c, S c → ¬ bt c a
theorem isBest.uni {S : Cd → Prop} : ∀ {o p : Option Cd}, isBest S o → isBest S p → o = p
  | none, none, _, _ => rfl
  | none, some b, h, g => absurd g.1 (h b)
  | some a, none, h, g => absurd h.1 (g a)
  | some a, some b, h, g => by rw [bt_total (g.2 a h.1) (h.2 b g.1)]
theorem isBest.congr {S T : Cd → Prop} (e : ∀ c, S c ↔ T c) : ∀ {o : Option Cd}, isBest S o → isBest T o
  | none, h => fun c t => h c ((e c).mpr t)
  | some a, h => ⟨(e a).mp h.1, fun c t => h.2 c ((e c).mpr t)⟩
open Classical in
noncomputable def betterC : Option Cd → Cd → Cd
  | none, b => b
  | some a, b => if bt b a then b else a
open Classical in
theorem betterC_some {a b : Cd} : betterC (some a) b = if bt b a then b else a := rfl
open Classical in
theorem isBest.or {S T : Cd → Prop} {o : Option Cd} {b : Cd} (h : isBest S o) (g : isBest T (some b)) : isBest (fun c => S c ∨ T c) (some (betterC o b)) := by
  cases o with
  | none => exact ⟨.inr g.1, fun c hc => hc.elim (fun z => absurd z (h c)) (g.2 c)⟩
  | some a =>
    rw [betterC_some]
    by_cases c : bt b a
    · rw [if_pos c]
      exact ⟨.inr g.1, fun x hx => hx.elim (fun z w => h.2 x z (bt_trans w c)) (g.2 x)⟩
    · rw [if_neg c]
      refine ⟨.inl h.1, fun x hx => hx.elim (h.2 x) fun z w => ?_⟩
      rcases Classical.em (bt a b) with y | y
      · exact g.2 x z (bt_trans w y)
      · have := bt_total c y
        rw [← this] at w
        exact g.2 x z w
theorem isBest.or0 {S T : Cd → Prop} {o : Option Cd} (h : isBest S o) (g : isBest T none) : isBest (fun c => S c ∨ T c) o := h.congr fun c => ⟨.inl, fun z => z.elim id fun t => absurd t (g c)⟩
/-! ### derivations -/
def dvR (P : Sy → Dv → Prop) : List Sy → Dv → Prop
  | [], d => d = oneD
  | s :: ss, d => ∃ t r, P s t ∧ dvR P ss r ∧ d = mulD t r
def dvS (gm : Gm) : Nat → Sy → Dv → Prop
  | _, .l c, d => d = (1, [c], [])
  | 0, .v _, _ => False
  | n + 1, .v k, d => ∃ rs a r d', gm[k]? = some rs ∧ rs[a]? = some r ∧ dvR (dvS gm n) r.2 d' ∧ d = (r.1 * d'.1, d'.2.1, (k, a) :: d'.2.2)
def DvS (gm : Gm) (s : Sy) (d : Dv) : Prop := ∃ n, dvS gm n s d
def DvR (gm : Gm) (ss : List Sy) (d : Dv) : Prop := ∃ n, dvR (dvS gm n) ss d
section
variable {gm : Gm} {s : Sy} {ss : List Sy} {d : Dv} {n : Nat}
theorem dvR_mono {P P' : Sy → Dv → Prop} (h : ∀ s d, P s d → P' s d) : ∀ {ss d}, dvR P ss d → dvR P' ss d
  | [], d, e => e
  | s :: ss, d, ⟨t, r, h1, h2, e⟩ => ⟨t, r, h s t h1, dvR_mono h h2, e⟩
theorem dvS_let {c : Nat} : dvS gm n (.l c) d ↔ d = (1, [c], []) := by cases n <;> exact Iff.rfl
theorem dvS_succ : ∀ n s d, dvS gm n s d → dvS gm (n + 1) s d
  | n, .l c, d, h => dvS_let.mpr (dvS_let.mp h)
  | 0, .v k, d, h => h.elim
  | n + 1, .v k, d, ⟨rs, a, r, d', h1, h2, h3, e⟩ => ⟨rs, a, r, d', h1, h2, dvR_mono (dvS_succ n) h3, e⟩
theorem dvS_mono {m : Nat} (h : n ≤ m) (g : dvS gm n s d) : dvS gm m s d := by
  obtain ⟨k, rfl⟩ := Nat.exists_eq_add_of_le h
  clear h
  induction k with
  | zero => exact g
  | succ k ih => exact dvS_succ _ _ _ ih
theorem DvS_let {c : Nat} : DvS gm (.l c) d ↔ d = (1, [c], []) := ⟨fun ⟨n, h⟩ => dvS_let.mp h, fun h => ⟨0, h⟩⟩
theorem DvS_var {k : Nat} : DvS gm (.v k) d ↔ ∃ rs a r d', gm[k]? = some rs ∧ rs[a]? = some r ∧ DvR gm r.2 d' ∧ d = (r.1 * d'.1, d'.2.1, (k, a) :: d'.2.2) := by
  constructor
  · rintro ⟨n, h⟩
    cases n with
    | zero => exact h.elim
    | succ n =>
      obtain ⟨rs, a, r, d', h1, h2, h3, e⟩ := h
      exact ⟨rs, a, r, d', h1, h2, ⟨n, h3⟩, e⟩
  · rintro ⟨rs, a, r, d', h1, h2, ⟨n, h3⟩, e⟩
    exact ⟨n + 1, rs, a, r, d', h1, h2, h3, e⟩
theorem DvR_nil : DvR gm [] d ↔ d = oneD := ⟨fun ⟨n, h⟩ => h, fun h => ⟨0, h⟩⟩
theorem DvR_cons : DvR gm (s :: ss) d ↔ ∃ t r, DvS gm s t ∧ DvR gm ss r ∧ d = mulD t r := by
  constructor
  · rintro ⟨n, t, r, h1, h2, e⟩
    exact ⟨t, r, ⟨n, h1⟩, ⟨n, h2⟩, e⟩
  · rintro ⟨t, r, ⟨n, h1⟩, ⟨m, h2⟩, e⟩
    exact ⟨max n m, t, r, dvS_mono (Nat.le_max_left ..) h1, dvR_mono (fun s d => dvS_mono (Nat.le_max_right ..)) h2, e⟩
theorem DvR_one : DvR gm [s] d ↔ DvS gm s d := by
  have w : ∀ t : Dv, mulD t oneD = t := fun a => by unfold mulD oneD; simp [Rat.mul_one]
  rw [DvR_cons]
  constructor
  · rintro ⟨t, r, h1, h2, e⟩
    rw [DvR_nil.mp h2, w] at e
    rw [e]
    exact h1
  · intro h
    exact ⟨d, oneD, h, DvR_nil.mpr rfl, (w d).symm⟩
/-- what all derivations are -/
structure DOk (m : Nat) (d : Dv) : Prop where
  lo : m ≤ d.2.1.length
  po : 0 < d.1
  sz : Uf (2 * d.2.1.length - m) d.1
  ou : d.2.2.length + m ≤ 2 * d.2.1.length
  lw : Lw d.2.1
theorem dvR_ok {P : Sy → Dv → Prop} : ∀ {ss d}, (∀ s ∈ ss, ∀ t, P s t → DOk 1 t) → dvR P ss d → DOk ss.length d
  | [], d, _, e => by
    have e : d = oneD := e
    rw [e]
    exact ⟨Nat.le_refl _, by show (0 : Rat) < 1; decide +kernel, Uf.one, Nat.le_refl _, fun x hx => by cases hx⟩
  | s :: ss, d, h, ⟨t, r, h1, h2, e⟩ => by
    have a := h s List.mem_cons_self t h1
    have b := dvR_ok (fun x hx => h x (List.mem_cons_of_mem _ hx)) h2
    rw [e, List.length_cons]
    have l : (mulD t r).2.1.length = t.2.1.length + r.2.1.length := by show (t.2.1 ++ r.2.1).length = _; rw [List.length_append]
    have o : (mulD t r).2.2.length = t.2.2.length + r.2.2.length := by show (t.2.2 ++ r.2.2).length = _; rw [List.length_append]
    have a1 := a.lo
    have b1 := b.lo
    have a2 := a.ou
    have b2 := b.ou
    refine ⟨by rw [l]; omega, Rat.mul_pos a.po b.po, ?_, by rw [l, o]; omega, fun x hx => (List.mem_append.mp hx).elim (a.lw x) (b.lw x)⟩
    rw [l]
    exact (a.sz.mul b.sz).to (by omega)
theorem c60_nn0 (pg : Pg gm) {rs : List Ru} (hr : rs ∈ gm) {r : Ru} (h : r ∈ rs) : 0 ≤ r.1 := by
  have c := ((pg.ok.rs rs hr).ru r h).ch.1
  rw [← Rat.num_nonneg]
  omega
theorem dvS_ok (pg : Pg gm) : ∀ n s d, OkSy gm.length s → dvS gm n s d → DOk 1 d
  | n, .l c, d, os, h => by
    rw [dvS_let.mp h]
    exact ⟨Nat.le_refl _, by show (0 : Rat) < 1; decide +kernel, Uf.one, Nat.le_succ _, fun x hx => by rw [List.mem_singleton.mp hx]; exact os⟩
  | 0, .v k, d, _, h => h.elim
  | n + 1, .v k, d, os, ⟨rs, a, r, d', h1, h2, h3, e⟩ => by
    have rm := List.mem_of_getElem? h1
    have hm := List.mem_of_getElem? h2
    have sy := ((pg.ok.rs rs rm).ru r hm).sy
    have c := ((pg.ok.rs rs rm).ru r hm).ch
    have p := pg.pl rs rm r hm
    have ok := dvR_ok (fun s hs t ht => dvS_ok pg n s t (sy s hs) ht) h3
    obtain ⟨w, hw, ew⟩ := pg.c60 rs rm r hm
    have pos : 0 < r.1 := by
      have n := c60_nn0 pg rm hm
      have ne : r.1 ≠ 0 := fun z => by
        have := c.1
        rw [z] at this
        exact absurd this (by decide)
      grind
    have l1 := ok.lo
    have o1 := ok.ou
    have pp := p.pos
    rw [e]
    refine ⟨by show 1 ≤ d'.2.1.length; omega, Rat.mul_pos pos ok.po, ?_, ?_, ok.lw⟩
    · show Uf (2 * d'.2.1.length - 1) (r.1 * d'.1)
      rw [ew]
      rcases p with ⟨x, hx⟩ | p
      · rw [hx] at h3
        obtain ⟨t, q, h4, h5, e5⟩ := h3
        have h5 : q = oneD := h5
        rw [dvS_let.mp h4, h5] at e5
        rw [e5]
        show Uf (2 * 1 - 1) (wR w * (1 * 1))
        rw [Rat.mul_one (1 : Rat)]
        exact (Uf.mul (fr_wR hw) (Uf.one (i := 0))).to (by decide)
      · exact (Uf.mul (fr_wR hw) ok.sz).to (by omega)
    · show (d'.2.2.length + 1) + 1 ≤ 2 * d'.2.1.length
      rcases p with ⟨x, hx⟩ | p
      · rw [hx] at h3
        obtain ⟨t, q, h4, h5, e5⟩ := h3
        have h5 : q = oneD := h5
        rw [dvS_let.mp h4, h5] at e5
        rw [e5]
        show 0 + 1 + 1 ≤ 2 * 1
        decide
      · omega
theorem DvS.ok (pg : Pg gm) (os : OkSy gm.length s) (h : DvS gm s d) : DOk 1 d := h.elim fun n h => dvS_ok pg n s d os h
theorem DvR.ok (pg : Pg gm) (os : ∀ s ∈ ss, OkSy gm.length s) (h : DvR gm ss d) : DOk ss.length d := h.elim fun n h => dvR_ok (fun s hs t ht => dvS_ok pg n s t (os s hs) ht) h
/-- outlines are read in one way -/
theorem dvR_parse {P : Sy → Dv → Prop} (h : ∀ s t t' x y, P s t → P s t' → t.2.2 ++ x = t'.2.2 ++ y → t.2.2 = t'.2.2 ∧ x = y) : ∀ {ss d d' x y}, dvR P ss d → dvR P ss d' → d.2.2 ++ x = d'.2.2 ++ y → d.2.2 = d'.2.2 ∧ x = y
  | [], d, d', x, y, e, e', z => by
    have e : d = oneD := e
    have e' : d' = oneD := e'
    rw [e, e'] at z ⊢
    exact ⟨rfl, z⟩
  | s :: ss, d, d', x, y, ⟨t, r, h1, h2, e⟩, ⟨t', r', h1', h2', e'⟩, z => by
    rw [e, e'] at z ⊢
    have z : (t.2.2 ++ r.2.2) ++ x = (t'.2.2 ++ r'.2.2) ++ y := z
    rw [List.append_assoc, List.append_assoc] at z
    obtain ⟨a, b⟩ := h s t t' _ _ h1 h1' z
    obtain ⟨a2, b2⟩ := dvR_parse h h2 h2' b
    exact ⟨by show t.2.2 ++ r.2.2 = t'.2.2 ++ r'.2.2; rw [a, a2], b2⟩
theorem dvS_parse : ∀ n s t t' x y, dvS gm n s t → dvS gm n s t' → t.2.2 ++ x = t'.2.2 ++ y → t.2.2 = t'.2.2 ∧ x = y
  | n, .l c, t, t', x, y, h, h', z => by
    rw [dvS_let.mp h, dvS_let.mp h'] at z ⊢
    exact ⟨rfl, z⟩
  | 0, .v k, _, _, _, _, h, _, _ => h.elim
  | n + 1, .v k, t, t', x, y, ⟨rs, a, r, d, h1, h2, h3, e⟩, ⟨rs', a', r', d', h1', h2', h3', e'⟩, z => by
    rw [h1] at h1'
    cases h1'
    rw [e, e'] at z ⊢
    have z : (k, a) :: (d.2.2 ++ x) = (k, a') :: (d'.2.2 ++ y) := z
    injection z with z1 z2
    have : a = a' := (Prod.mk.inj z1).2
    subst this
    rw [h2] at h2'
    cases h2'
    obtain ⟨q1, q2⟩ := dvR_parse (dvS_parse n) h3 h3' z2
    exact ⟨by show (k, a) :: d.2.2 = (k, a) :: d'.2.2; rw [q1], q2⟩
theorem DvS.free {t t' : Dv} (h : DvS gm s t) (g : DvS gm s t') (z : List (Nat × Nat)) (e : t'.2.2 = t.2.2 ++ z) : z = [] := by
  obtain ⟨n, h⟩ := h
  obtain ⟨m, g⟩ := g
  have := dvS_parse (max n m) s t t' z [] (dvS_mono (Nat.le_max_left ..) h) (dvS_mono (Nat.le_max_right ..) g) (by rw [List.append_nil, e])
  exact this.2
/-! ### the law's list -/
theorem rwD_dv {F : Sy → Nat → List Dv} {P : Sy → Dv → Prop} (h : ∀ s M d, d ∈ F s M → P s d) : ∀ {ss L d}, d ∈ rwD F ss L → dvR P ss d
  | [], L, d, hd => by show d = oneD; simpa [rwD] using hd
  | s :: ss, L, d, hd => by
    obtain ⟨t, ht, hd⟩ := List.mem_flatMap.mp hd
    obtain ⟨r, hr, rfl⟩ := List.mem_map.mp hd
    exact ⟨t, r, h s _ t ht, rwD_dv h hr, rfl⟩
theorem trD_dv : ∀ n s M d, d ∈ trD gm n s M → dvS gm n s d
  | n, .l c, M, d, h => by
    rw [trD_let] at h
    split at h
    · exact dvS_let.mpr (by simpa using h)
    · cases h
  | 0, .v k, M, d, h => by cases h
  | n + 1, .v k, M, d, h => by
    unfold trD at h
    obtain ⟨r, hr, h⟩ := List.mem_flatMap.mp h
    have hm := List.mem_zipIdx' (x := r.1) (i := r.2) hr
    have hr1 : r.1 ∈ gm.getD k [] := by rw [hm.2]; exact List.getElem_mem _
    cases e : gm[k]? with
    | none => simp [List.getD, e] at hr1
    | some rs =>
      have z : gm.getD k [] = rs := by simp [List.getD, e]
      have q : (gm.getD k [])[r.2]? = some r.1 := by rw [List.getElem?_eq_getElem hm.1, ← hm.2]
      rw [z] at q
      split at h
      · obtain ⟨d', hd', rfl⟩ := List.mem_map.mp h
        exact ⟨rs, r.2, r.1, d', e, q, rwD_dv (trD_dv n) hd', rfl⟩
      · cases h
theorem rwD_in {F : Sy → Nat → List Dv} {P : Sy → Dv → Prop} {N : Nat} (ok : ∀ s t, P s t → 1 ≤ t.2.1.length) (h : ∀ s M d, P s d → d.2.1.length ≤ M → M ≤ N → d ∈ F s M) : ∀ {ss L d}, dvR P ss d → d.2.1.length ≤ L → L - (ss.length - 1) ≤ N → d ∈ rwD F ss L
  | [], L, d, e, _, _ => by
    have e : d = oneD := e
    rw [e]
    simp [rwD]
  | s :: ss, L, d, ⟨t, r, h1, h2, e⟩, hl, hN => by
    have len : ∀ {ss r}, dvR P ss r → ss.length ≤ r.2.1.length := fun {ss} => by
      induction ss with
      | nil => intro r _; exact Nat.zero_le _
      | cons s ss ih =>
        rintro r ⟨t, q, a, b, e⟩
        have := ok s t a
        have := ih b
        rw [e]
        show _ ≤ (t.2.1 ++ q.2.1).length
        rw [List.length_append, List.length_cons]
        omega
    have l2 := len h2
    have l1 := ok s t h1
    rw [e] at hl ⊢
    have hl : (t.2.1 ++ r.2.1).length ≤ L := hl
    rw [List.length_append] at hl
    rw [List.length_cons] at hN
    refine List.mem_flatMap.mpr ⟨t, h s (L - ss.length) t h1 (by omega) (by omega), List.mem_map.mpr ⟨r, ?_, rfl⟩⟩
    exact rwD_in ok h h2 (by omega) (by omega)
theorem trD_in (pg : Pg gm) : ∀ (n m : Nat) (s : Sy) (M : Nat) (d : Dv), OkSy gm.length s → dvS gm m s d → d.2.1.length ≤ M → M ≤ n → d ∈ trD gm n s M
  | n, m, .l c, M, d, os, h, hM, hn => by
    have e := dvS_let.mp h
    rw [e] at hM ⊢
    rw [trD_let, if_pos (by simp at hM; omega)]
    exact List.mem_singleton.mpr rfl
  | 0, m, .v k, M, d, os, h, hM, hn => by have := (dvS_ok pg m _ d os h).lo; omega
  | n + 1, 0, .v k, M, d, os, h, hM, hn => h.elim
  | n + 1, m + 1, .v k, M, d, os, ⟨rs, a, r, d', h1, h2, h3, e⟩, hM, hn => by
    have rm := List.mem_of_getElem? h1
    have hm := List.mem_of_getElem? h2
    have sy := ((pg.ok.rs rs rm).ru r hm).sy
    have p := pg.pl rs rm r hm
    have ok := dvR_ok (fun s hs t ht => dvS_ok pg m s t (sy s hs) ht) h3
    have l1 := ok.lo
    have pp := p.pos
    rw [e] at hM ⊢
    have hM : d'.2.1.length ≤ M := hM
    unfold trD
    refine List.mem_flatMap.mpr ⟨(r, a), ?_, ?_⟩
    · have z : gm.getD k [] = rs := by simp [List.getD, h1]
      rw [z]
      refine List.mem_of_getElem? (i := a) ?_
      rw [List.getElem?_zipIdx, h2]
      simp
    · rw [if_pos (by show r.2.length ≤ M; omega)]
      refine List.mem_map.mpr ⟨d', ?_, rfl⟩
      rcases p with ⟨x, hx⟩ | p
      · rw [hx] at h3 ⊢
        rw [rwD_let (by omega)]
        obtain ⟨t, q, h4, h5, e5⟩ := h3
        have h5 : q = oneD := h5
        rw [dvS_let.mp h4, h5] at e5
        rw [e5]
        refine List.mem_singleton.mpr ?_
        unfold mulD oneD
        simp [Rat.mul_one]
      · refine rwD_in (P := fun s d => OkSy gm.length s ∧ dvS gm m s d) (N := n) (fun s t h => (dvS_ok pg m s t h.1 h.2).lo) (fun s M d h a b => trD_in pg n m s M d h.1 h.2 a b) ?_ hM (by show M - (r.2.length - 1) ≤ n; omega)
        have tr : ∀ {ss d}, (∀ s ∈ ss, OkSy gm.length s) → dvR (dvS gm m) ss d → dvR (fun s d => OkSy gm.length s ∧ dvS gm m s d) ss d := fun {ss} => by
          induction ss with
          | nil => intro d _ h; exact h
          | cons s ss ih =>
            rintro d os ⟨t, q, a, b, e⟩
            exact ⟨t, q, ⟨os s List.mem_cons_self, a⟩, ih (fun x hx => os x (List.mem_cons_of_mem _ hx)) b, e⟩
        exact tr sy h3
/-- candidates of a symbol, of symbols, for a word -/
def CdS (gm : Gm) (s : Sy) (u : List Nat) (c : Cd) : Prop := ∃ d, DvS gm s d ∧ d.2.1 = u ∧ c = (d.1, d.2.2)
def CdR (gm : Gm) (ss : List Sy) (u : List Nat) (c : Cd) : Prop := ∃ d, DvR gm ss d ∧ d.2.1 = u ∧ c = (d.1, d.2.2)
theorem CdS_law (pg : Pg gm) (os : OkSy gm.length s) {M : Nat} (hM : M ≤ n) {u : List Nat} (hu : u.length ≤ M) {c : Cd} : CdS gm s u c ↔ ∃ d ∈ trD gm n s M, d.2.1 = u ∧ c = (d.1, d.2.2) := by
  constructor
  · rintro ⟨d, ⟨m, h⟩, e1, e2⟩
    exact ⟨d, trD_in pg n m s M d os h (by rw [e1]; exact hu) hM, e1, e2⟩
  · rintro ⟨d, h, e1, e2⟩
    exact ⟨d, ⟨n, trD_dv n s M d h⟩, e1, e2⟩
/-- the best of a product -/
theorem best_mul {s : Sy} {ss : List Sy} (pg : Pg gm) (os : OkSy gm.length s) (oss : ∀ s ∈ ss, OkSy gm.length s) {u v : List Nat} {a b : Cd} (ha : isBest (CdS gm s u) (some a)) (hb : isBest (CdR gm ss v) (some b)) : isBest (fun c => ∃ x y, CdS gm s u x ∧ CdR gm ss v y ∧ c = (x.1 * y.1, x.2 ++ y.2)) (some (a.1 * b.1, a.2 ++ b.2)) := by
  refine ⟨⟨a, b, ha.1, hb.1, rfl⟩, ?_⟩
  rintro c ⟨x, y, hx, hy, rfl⟩ w
  have nx := ha.2 x hx
  have ny := hb.2 y hy
  obtain ⟨dx, kx, _, ex⟩ := hx
  obtain ⟨dy, ky, _, ey⟩ := hy
  obtain ⟨da, ka, _, ea⟩ := ha.1
  obtain ⟨db, kb, _, eb⟩ := hb.1
  have px : 0 < x.1 := by rw [ex]; exact (kx.ok pg os).po
  have py : 0 < y.1 := by rw [ey]; exact (ky.ok pg oss).po
  have pa : 0 < a.1 := by rw [ea]; exact (ka.ok pg os).po
  have pb : 0 < b.1 := by rw [eb]; exact (kb.ok pg oss).po
  have lx : x.1 ≤ a.1 := Rat.not_lt.mp fun z => nx (.inl z)
  have ly : y.1 ≤ b.1 := Rat.not_lt.mp fun z => ny (.inl z)
  have step : x.1 * y.1 ≤ a.1 * b.1 := Rat.le_trans (Rat.mul_le_mul_of_nonneg_left ly (Rat.le_of_lt px)) (Rat.mul_le_mul_of_nonneg_right lx (Rat.le_of_lt pb))
  rcases w with w | ⟨w1, w2⟩
  · exact absurd step (Rat.not_le.mpr w)
  · have w1 : x.1 * y.1 = a.1 * b.1 := w1
    have w2 : olt (x.2 ++ y.2) (a.2 ++ b.2) = true := w2
    have e1 : x.1 = a.1 := by
      rcases rle_cases lx with z | z
      · have h1 : x.1 * b.1 < a.1 * b.1 := Rat.mul_lt_mul_of_pos_right z pb
        have h2 : x.1 * y.1 ≤ x.1 * b.1 := Rat.mul_le_mul_of_nonneg_left ly (Rat.le_of_lt px)
        rw [← w1] at h1
        exact absurd (rlt_le h1 h2) rlt_irr
      · exact z
    have e2 : y.1 = b.1 := by
      rcases rle_cases ly with z | z
      · have h1 : x.1 * y.1 < x.1 * b.1 := Rat.mul_lt_mul_of_pos_left z px
        rw [w1, e1] at h1
        exact absurd h1 rlt_irr
      · exact z
    rcases Classical.em (x.2 = a.2) with z | z
    · rw [z, olt_app] at w2
      exact ny (.inr ⟨e2, w2⟩)
    · rcases olt_total z with q | q
      · exact nx (.inr ⟨e1, q⟩)
      · have fr : ∀ z, x.2 = a.2 ++ z → z = [] := fun z e => by
          rw [ex, ea] at e
          exact ka.free kx z e
        have := olt_ext (x := b.2) (y := y.2) q fr
        rw [olt_asymm this] at w2
        cases w2
end
end Zc
/-! G27A: the program's best trees. -/
namespace Zc
open PySem L2 Z Q Zl
def ipZ (c : Nat × Nat) : Int × Int := ((c.1 : Int), (c.2 : Int))
theorem ipZ_inj {c e : Nat × Nat} : ipZ c = ipZ e ↔ c = e := by
  constructor
  · intro h
    exact Prod.ext (Int.ofNat.inj (Prod.mk.inj h).1) (Int.ofNat.inj (Prod.mk.inj h).2)
  · rintro rfl
    rfl
theorem plt_lt {x y : Nat × Nat} : PySem.W.DatumOrd.lt (ipZ x) (ipZ y) = plt x y := by
  show (if (x.1 : Int) = (y.1 : Int) then decide ((x.2 : Int) < (y.2 : Int)) else decide ((x.1 : Int) < (y.1 : Int))) = plt x y
  unfold plt
  by_cases c : x.1 = y.1
  · rw [if_pos (by rw [c]), if_pos c]
    exact decide_eq_decide.mpr (by omega)
  · rw [if_neg (by omega), if_neg c]
    exact decide_eq_decide.mpr (by omega)
theorem olt_lt : ∀ a b : List (Nat × Nat), PySem.W.listLt (a.map ipZ) (b.map ipZ) = olt a b
  | [], [] => rfl
  | [], _ :: _ => rfl
  | _ :: _, [] => rfl
  | x :: xs, y :: ys => by
    rw [List.map_cons, List.map_cons]
    unfold PySem.W.listLt olt
    by_cases c : x = y
    · rw [if_pos (ipZ_inj.mpr c), if_pos c]
      exact olt_lt xs ys
    · rw [if_neg fun z => c (ipZ_inj.mp z), if_neg c]
      exact plt_lt
section
variable {h h' H : IH} {a b : List (Nat × Nat)} {k1 k2 : Nat}
def outP (a : List (Nat × Nat)) : PyData := .list (a.map fun c => .tuple [.int (c.1 : Int), .int (c.2 : Int)])
theorem pd_out (q : h[k1]? = some (.lst (a.map dC))) : pd pdK h (.ref k1) = some (outP a) := by
  show (match h[k1]? with
    | some (.lst ds) => (pdL (pd 15 h) ds).map PyData.list
    | _ => none) = _
  rw [q]
  have : ∀ a : List (Nat × Nat), pdL (pd 15 h) (a.map dC) = some (a.map fun c => .tuple [.int (c.1 : Int), .int (c.2 : Int)]) := fun a => by
    induction a with
    | nil => rfl
    | cons c a ih => exact pdL_cons rfl ih
  show (pdL (pd 15 h) (a.map dC)).map PyData.list = _
  rw [this]
  rfl
theorem out_sh : SeqAt.shaped (outP a) = true := by
  refine shaped_list ?_ ?_
  · induction a with
    | nil => simp [PyData.canLayAll0]
    | cons c a ih => simp [PyData.canLayAll0, PyData.canLay0] at ih ⊢; exact ih
  · induction a with
    | nil => simp [PyData.depthAll]
    | cons c a ih => simp [PyData.depthAll, PyData.depth] at ih ⊢; omega
theorem out_toD : outP a = PySem.W.Datum.toD (a.map ipZ) := by
  show PyData.list _ = PyData.list _
  rw [List.map_map]
  rfl
theorem ord_out (q1 : h[k1]? = some (.lst (a.map dC))) (q2 : h[k2]? = some (.lst (b.map dC))) : ordX h (.ref k1) (.ref k2) = some (olt a b) := by
  unfold ordX
  rw [pd_out q1, pd_out q2]
  dsimp only
  have e1 := out_toD (a := a)
  have e2 := out_toD (a := b)
  rw [if_pos ⟨out_sh, by rw [e1, e2]; exact PySem.W.DatumOrd.alike _ _, by rw [e1, e2]; exact PySem.W.DatumOrd.alike _ _, by rw [e1]; exact PySem.W.DatumOrd.notNone _, by rw [e2]; exact PySem.W.DatumOrd.notNone _, out_sh⟩]
  rw [e1, e2, PySem.W.DatumOrd.lt_eq]
  congr 1
  exact olt_lt a b
/-- a candidate in the heap -/
def isC (H : IH) (d : D) : Option Cd → Prop
  | none => d = .non
  | some c => ∃ k, d = .tup [dr c.1, .ref k] ∧ H[k]? = some (.lst (c.2.map dC))
theorem isC.ap {d : D} {o : Option Cd} (A : Ap h H) (w : isC h d o) : isC H d o := by
  cases o with
  | none => exact w
  | some c => exact let ⟨k, e, q⟩ := w; ⟨k, e, A.get q⟩
theorem isC.ax {d : D} {o : Option Cd} {kd : Nat} {kvs : List (List Int × D)} (A : Ax kd h H) (qd : h[kd]? = some (.dit kvs)) (w : isC h d o) : isC H d o := by
  cases o with
  | none => exact w
  | some c => exact let ⟨k, e, q⟩ := w; ⟨k, e, A.get q fun z => by rw [z, qd] at q; cases q⟩
open Classical in
theorem ev_better {d1 d2 : D} {o : Option Cd} {b : Cd} (c1 : isC h d1 o) (c2 : isC h d2 (some b)) (r1 : ∀ a, o = some a → RB 400 a.1) (r2 : RB 400 b.1) : rp (F_better [d1, d2] h) (fun d H => H = h ∧ isC h d (some (betterC o b))) noX := by
  obtain ⟨k2, rfl, q2⟩ := c2
  have o2 : ∀ K : IH, okV K (.tup [dr b.1, .ref k2]) = .ok (.tup [dr b.1, .ref k2]) K := fun _ => rfl
  have i20 : ∀ K : IH, ixM (.tup [dr b.1, .ref k2]) (.int 0) K = .ok (dr b.1) K := fun K => ixM_tup2_0
  have i21 : ∀ K : IH, ixM (.tup [dr b.1, .ref k2]) (.int 1) K = .ok (.ref k2) K := fun K => by simp
  cases o with
  | none =>
    have c1 : d1 = .non := c1
    subst c1
    unfold F_better M_better
    refine rp_def ?_
    simp only [setsE_cons, setsE_nil, List.set_cons_zero, List.set_cons_succ, List.map_cons, List.map_nil, List.length_cons, List.length_nil, List.cons_append, List.nil_append, List.append_nil, List.replicate_succ, List.replicate_zero, Nat.zero_add, Nat.reduceAdd, Nat.reduceSub, wipeE_nil, wipeE_cons, ↓reduceIte, Bool.false_eq_true, Bool.not_true, Bool.not_false]
    (first | refine sp_seq ?_ | refine sp_set ?_ | refine sp_if ?_ | refine sp_ret ?_ | refine sp_expr ?_ | refine sp_asg ?_ | refine sp_next ?_ | refine sp_brk ?_ | refine sp_cont ?_ | refine sp_raise ?_ | refine sp_put ?_ | refine sp_retN ?_ | refine sp_par ?_ | refine sp_asgL ?_)
    try dsimp only
    (first | refine sp_seq ?_ | refine sp_set ?_ | refine sp_if ?_ | refine sp_ret ?_ | refine sp_expr ?_ | refine sp_asg ?_ | refine sp_next ?_ | refine sp_brk ?_ | refine sp_cont ?_ | refine sp_raise ?_ | refine sp_put ?_ | refine sp_retN ?_ | refine sp_par ?_ | refine sp_asgL ?_)
    try dsimp only
    refine rp_tor (rp_btest (rp_bin ?_))
    conv => (arg 1; simp [okV_iD, okV_dr, okV_dPt, okV_dP, okV_dG, okV_dC, okV_dB, ix_wd, iD_def])
    refine rp_ok ?_
    try dsimp only
    try simp only [setsE_cons, setsE_nil, List.set_cons_zero, List.set_cons_succ, List.map_cons, List.map_nil, List.length_cons, List.length_nil, List.cons_append, List.nil_append, List.append_nil, List.replicate_succ, List.replicate_zero, Nat.zero_add, Nat.reduceAdd, Nat.reduceSub, wipeE_nil, wipeE_cons, ↓reduceIte, Bool.false_eq_true, Bool.not_true, Bool.not_false]
    conv => (arg 1; simp [okV_iD, okV_dr, okV_dPt, okV_dP, okV_dG, okV_dC, okV_dB, ix_wd, iD_def])
    refine rp_ok ?_
    try dsimp only
    try simp only [setsE_cons, setsE_nil, List.set_cons_zero, List.set_cons_succ, List.map_cons, List.map_nil, List.length_cons, List.length_nil, List.cons_append, List.nil_append, List.append_nil, List.replicate_succ, List.replicate_zero, Nat.zero_add, Nat.reduceAdd, Nat.reduceSub, wipeE_nil, wipeE_cons, ↓reduceIte, Bool.false_eq_true, Bool.not_true, Bool.not_false]
    refine rp_eq (show isM false .non .non h = .ok (.bl true) h from rfl) ⟨_, rfl, ?_⟩
    simp only [if_true]
    (first | refine sp_seq ?_ | refine sp_set ?_ | refine sp_if ?_ | refine sp_ret ?_ | refine sp_expr ?_ | refine sp_asg ?_ | refine sp_next ?_ | refine sp_brk ?_ | refine sp_cont ?_ | refine sp_raise ?_ | refine sp_put ?_ | refine sp_retN ?_ | refine sp_par ?_ | refine sp_asgL ?_)
    try dsimp only
    conv => (arg 1; simp [okV_iD, okV_dr, okV_dPt, okV_dP, okV_dG, okV_dC, okV_dB, ix_wd, iD_def, o2])
    refine rp_ok ?_
    try dsimp only
    try simp only [setsE_cons, setsE_nil, List.set_cons_zero, List.set_cons_succ, List.map_cons, List.map_nil, List.length_cons, List.length_nil, List.cons_append, List.nil_append, List.append_nil, List.replicate_succ, List.replicate_zero, Nat.zero_add, Nat.reduceAdd, Nat.reduceSub, wipeE_nil, wipeE_cons, ↓reduceIte, Bool.false_eq_true, Bool.not_true, Bool.not_false]
    exact tq_same ⟨rfl, k2, rfl, q2⟩
  | some a =>
    obtain ⟨k1, rfl, q1⟩ := c1
    have o1 : ∀ K : IH, okV K (.tup [dr a.1, .ref k1]) = .ok (.tup [dr a.1, .ref k1]) K := fun _ => rfl
    have i10 : ∀ K : IH, ixM (.tup [dr a.1, .ref k1]) (.int 0) K = .ok (dr a.1) K := fun K => ixM_tup2_0
    have i11 : ∀ K : IH, ixM (.tup [dr a.1, .ref k1]) (.int 1) K = .ok (.ref k1) K := fun K => by simp
    have ra := r1 a rfl
    have ls1 : F_less [dr a.1, dr b.1] h = .ok (.bl (decide (a.1 < b.1))) h := ev_less ra r2
    have ls2 : F_less [dr b.1, dr a.1] h = .ok (.bl (decide (b.1 < a.1))) h := ev_less r2 ra
    have le : leDM (.ref k1) (.ref k2) h = .ok (.bl (!olt b.2 a.2)) h := by
      unfold leDM
      rw [ord_out q2 q1]
    have fb : bt b a → tq h (fun d H => H = h ∧ isC h d (some (betterC (some a) b))) (.tup [dr b.1, .ref k2]) h := fun z => tq_same ⟨rfl, by rw [betterC_some, if_pos z]; exact ⟨k2, rfl, q2⟩⟩
    have fa : ¬ bt b a → tq h (fun d H => H = h ∧ isC h d (some (betterC (some a) b))) (.tup [dr a.1, .ref k1]) h := fun z => tq_same ⟨rfl, by rw [betterC_some, if_neg z]; exact ⟨k1, rfl, q1⟩⟩
    unfold F_better M_better
    refine rp_def ?_
    simp only [setsE_cons, setsE_nil, List.set_cons_zero, List.set_cons_succ, List.map_cons, List.map_nil, List.length_cons, List.length_nil, List.cons_append, List.nil_append, List.append_nil, List.replicate_succ, List.replicate_zero, Nat.zero_add, Nat.reduceAdd, Nat.reduceSub, wipeE_nil, wipeE_cons, ↓reduceIte, Bool.false_eq_true, Bool.not_true, Bool.not_false]
    (first | refine sp_seq ?_ | refine sp_set ?_ | refine sp_if ?_ | refine sp_ret ?_ | refine sp_expr ?_ | refine sp_asg ?_ | refine sp_next ?_ | refine sp_brk ?_ | refine sp_cont ?_ | refine sp_raise ?_ | refine sp_put ?_ | refine sp_retN ?_ | refine sp_par ?_ | refine sp_asgL ?_)
    try dsimp only
    (first | refine sp_seq ?_ | refine sp_set ?_ | refine sp_if ?_ | refine sp_ret ?_ | refine sp_expr ?_ | refine sp_asg ?_ | refine sp_next ?_ | refine sp_brk ?_ | refine sp_cont ?_ | refine sp_raise ?_ | refine sp_put ?_ | refine sp_retN ?_ | refine sp_par ?_ | refine sp_asgL ?_)
    try dsimp only
    refine rp_tor (rp_btest (rp_bin ?_))
    conv => (arg 1; simp [okV_iD, okV_dr, okV_dPt, okV_dP, okV_dG, okV_dC, okV_dB, ix_wd, iD_def, o1])
    refine rp_ok ?_
    try dsimp only
    try simp only [setsE_cons, setsE_nil, List.set_cons_zero, List.set_cons_succ, List.map_cons, List.map_nil, List.length_cons, List.length_nil, List.cons_append, List.nil_append, List.append_nil, List.replicate_succ, List.replicate_zero, Nat.zero_add, Nat.reduceAdd, Nat.reduceSub, wipeE_nil, wipeE_cons, ↓reduceIte, Bool.false_eq_true, Bool.not_true, Bool.not_false]
    conv => (arg 1; simp [okV_iD, okV_dr, okV_dPt, okV_dP, okV_dG, okV_dC, okV_dB, ix_wd, iD_def])
    refine rp_ok ?_
    try dsimp only
    try simp only [setsE_cons, setsE_nil, List.set_cons_zero, List.set_cons_succ, List.map_cons, List.map_nil, List.length_cons, List.length_nil, List.cons_append, List.nil_append, List.append_nil, List.replicate_succ, List.replicate_zero, Nat.zero_add, Nat.reduceAdd, Nat.reduceSub, wipeE_nil, wipeE_cons, ↓reduceIte, Bool.false_eq_true, Bool.not_true, Bool.not_false]
    refine rp_eq (show isM false (.tup [dr a.1, .ref k1]) .non h = .ok (.bl false) h from rfl) ⟨_, rfl, ?_⟩
    simp only [Bool.false_eq_true, if_false]
    refine rp_test (rp_call (rp_acons (rp_bin ?_)))
    conv => (arg 1; simp [okV_iD, okV_dr, okV_dPt, okV_dP, okV_dG, okV_dC, okV_dB, ix_wd, iD_def, o1])
    refine rp_ok ?_
    try dsimp only
    try simp only [setsE_cons, setsE_nil, List.set_cons_zero, List.set_cons_succ, List.map_cons, List.map_nil, List.length_cons, List.length_nil, List.cons_append, List.nil_append, List.append_nil, List.replicate_succ, List.replicate_zero, Nat.zero_add, Nat.reduceAdd, Nat.reduceSub, wipeE_nil, wipeE_cons, ↓reduceIte, Bool.false_eq_true, Bool.not_true, Bool.not_false]
    conv => (arg 1; simp [okV_iD, okV_dr, okV_dPt, okV_dP, okV_dG, okV_dC, okV_dB, ix_wd, iD_def])
    refine rp_ok ?_
    try dsimp only
    try simp only [setsE_cons, setsE_nil, List.set_cons_zero, List.set_cons_succ, List.map_cons, List.map_nil, List.length_cons, List.length_nil, List.cons_append, List.nil_append, List.append_nil, List.replicate_succ, List.replicate_zero, Nat.zero_add, Nat.reduceAdd, Nat.reduceSub, wipeE_nil, wipeE_cons, ↓reduceIte, Bool.false_eq_true, Bool.not_true, Bool.not_false]
    refine rp_eq (i10 h) (rp_acons (rp_bin ?_))
    conv => (arg 1; simp [okV_iD, okV_dr, okV_dPt, okV_dP, okV_dG, okV_dC, okV_dB, ix_wd, iD_def, o2])
    refine rp_ok ?_
    try dsimp only
    try simp only [setsE_cons, setsE_nil, List.set_cons_zero, List.set_cons_succ, List.map_cons, List.map_nil, List.length_cons, List.length_nil, List.cons_append, List.nil_append, List.append_nil, List.replicate_succ, List.replicate_zero, Nat.zero_add, Nat.reduceAdd, Nat.reduceSub, wipeE_nil, wipeE_cons, ↓reduceIte, Bool.false_eq_true, Bool.not_true, Bool.not_false]
    conv => (arg 1; simp [okV_iD, okV_dr, okV_dPt, okV_dP, okV_dG, okV_dC, okV_dB, ix_wd, iD_def])
    refine rp_ok ?_
    try dsimp only
    try simp only [setsE_cons, setsE_nil, List.set_cons_zero, List.set_cons_succ, List.map_cons, List.map_nil, List.length_cons, List.length_nil, List.cons_append, List.nil_append, List.append_nil, List.replicate_succ, List.replicate_zero, Nat.zero_add, Nat.reduceAdd, Nat.reduceSub, wipeE_nil, wipeE_cons, ↓reduceIte, Bool.false_eq_true, Bool.not_true, Bool.not_false]
    refine rp_eq (i20 h) (rp_anil (rp_eq ls1 ⟨_, rfl, ?_⟩))
    by_cases l1 : a.1 < b.1
    · simp only [l1, decide_true, if_true]
      (first | refine sp_seq ?_ | refine sp_set ?_ | refine sp_if ?_ | refine sp_ret ?_ | refine sp_expr ?_ | refine sp_asg ?_ | refine sp_next ?_ | refine sp_brk ?_ | refine sp_cont ?_ | refine sp_raise ?_ | refine sp_put ?_ | refine sp_retN ?_ | refine sp_par ?_ | refine sp_asgL ?_)
      try dsimp only
      conv => (arg 1; simp [okV_iD, okV_dr, okV_dPt, okV_dP, okV_dG, okV_dC, okV_dB, ix_wd, iD_def, o2])
      refine rp_ok ?_
      try dsimp only
      try simp only [setsE_cons, setsE_nil, List.set_cons_zero, List.set_cons_succ, List.map_cons, List.map_nil, List.length_cons, List.length_nil, List.cons_append, List.nil_append, List.append_nil, List.replicate_succ, List.replicate_zero, Nat.zero_add, Nat.reduceAdd, Nat.reduceSub, wipeE_nil, wipeE_cons, ↓reduceIte, Bool.false_eq_true, Bool.not_true, Bool.not_false]
      exact fb (.inl l1)
    simp only [l1, decide_false, Bool.false_eq_true, if_false]
    (first | refine sp_seq ?_ | refine sp_set ?_ | refine sp_if ?_ | refine sp_ret ?_ | refine sp_expr ?_ | refine sp_asg ?_ | refine sp_next ?_ | refine sp_brk ?_ | refine sp_cont ?_ | refine sp_raise ?_ | refine sp_put ?_ | refine sp_retN ?_ | refine sp_par ?_ | refine sp_asgL ?_)
    try dsimp only
    (first | refine sp_seq ?_ | refine sp_set ?_ | refine sp_if ?_ | refine sp_ret ?_ | refine sp_expr ?_ | refine sp_asg ?_ | refine sp_next ?_ | refine sp_brk ?_ | refine sp_cont ?_ | refine sp_raise ?_ | refine sp_put ?_ | refine sp_retN ?_ | refine sp_par ?_ | refine sp_asgL ?_)
    try dsimp only
    (first | refine sp_seq ?_ | refine sp_set ?_ | refine sp_if ?_ | refine sp_ret ?_ | refine sp_expr ?_ | refine sp_asg ?_ | refine sp_next ?_ | refine sp_brk ?_ | refine sp_cont ?_ | refine sp_raise ?_ | refine sp_put ?_ | refine sp_retN ?_ | refine sp_par ?_ | refine sp_asgL ?_)
    try dsimp only
    refine rp_tor (rp_test (rp_call (rp_acons (rp_bin ?_))))
    conv => (arg 1; simp [okV_iD, okV_dr, okV_dPt, okV_dP, okV_dG, okV_dC, okV_dB, ix_wd, iD_def, o2])
    refine rp_ok ?_
    try dsimp only
    try simp only [setsE_cons, setsE_nil, List.set_cons_zero, List.set_cons_succ, List.map_cons, List.map_nil, List.length_cons, List.length_nil, List.cons_append, List.nil_append, List.append_nil, List.replicate_succ, List.replicate_zero, Nat.zero_add, Nat.reduceAdd, Nat.reduceSub, wipeE_nil, wipeE_cons, ↓reduceIte, Bool.false_eq_true, Bool.not_true, Bool.not_false]
    conv => (arg 1; simp [okV_iD, okV_dr, okV_dPt, okV_dP, okV_dG, okV_dC, okV_dB, ix_wd, iD_def])
    refine rp_ok ?_
    try dsimp only
    try simp only [setsE_cons, setsE_nil, List.set_cons_zero, List.set_cons_succ, List.map_cons, List.map_nil, List.length_cons, List.length_nil, List.cons_append, List.nil_append, List.append_nil, List.replicate_succ, List.replicate_zero, Nat.zero_add, Nat.reduceAdd, Nat.reduceSub, wipeE_nil, wipeE_cons, ↓reduceIte, Bool.false_eq_true, Bool.not_true, Bool.not_false]
    refine rp_eq (i20 h) (rp_acons (rp_bin ?_))
    conv => (arg 1; simp [okV_iD, okV_dr, okV_dPt, okV_dP, okV_dG, okV_dC, okV_dB, ix_wd, iD_def, o1])
    refine rp_ok ?_
    try dsimp only
    try simp only [setsE_cons, setsE_nil, List.set_cons_zero, List.set_cons_succ, List.map_cons, List.map_nil, List.length_cons, List.length_nil, List.cons_append, List.nil_append, List.append_nil, List.replicate_succ, List.replicate_zero, Nat.zero_add, Nat.reduceAdd, Nat.reduceSub, wipeE_nil, wipeE_cons, ↓reduceIte, Bool.false_eq_true, Bool.not_true, Bool.not_false]
    conv => (arg 1; simp [okV_iD, okV_dr, okV_dPt, okV_dP, okV_dG, okV_dC, okV_dB, ix_wd, iD_def])
    refine rp_ok ?_
    try dsimp only
    try simp only [setsE_cons, setsE_nil, List.set_cons_zero, List.set_cons_succ, List.map_cons, List.map_nil, List.length_cons, List.length_nil, List.cons_append, List.nil_append, List.append_nil, List.replicate_succ, List.replicate_zero, Nat.zero_add, Nat.reduceAdd, Nat.reduceSub, wipeE_nil, wipeE_cons, ↓reduceIte, Bool.false_eq_true, Bool.not_true, Bool.not_false]
    refine rp_eq (i10 h) (rp_anil (rp_eq ls2 ⟨_, rfl, ?_⟩))
    by_cases l2 : b.1 < a.1
    · simp only [l2, decide_true, if_true]
      (first | refine sp_seq ?_ | refine sp_set ?_ | refine sp_if ?_ | refine sp_ret ?_ | refine sp_expr ?_ | refine sp_asg ?_ | refine sp_next ?_ | refine sp_brk ?_ | refine sp_cont ?_ | refine sp_raise ?_ | refine sp_put ?_ | refine sp_retN ?_ | refine sp_par ?_ | refine sp_asgL ?_)
      try dsimp only
      conv => (arg 1; simp [okV_iD, okV_dr, okV_dPt, okV_dP, okV_dG, okV_dC, okV_dB, ix_wd, iD_def, o1])
      refine rp_ok ?_
      try dsimp only
      try simp only [setsE_cons, setsE_nil, List.set_cons_zero, List.set_cons_succ, List.map_cons, List.map_nil, List.length_cons, List.length_nil, List.cons_append, List.nil_append, List.append_nil, List.replicate_succ, List.replicate_zero, Nat.zero_add, Nat.reduceAdd, Nat.reduceSub, wipeE_nil, wipeE_cons, ↓reduceIte, Bool.false_eq_true, Bool.not_true, Bool.not_false]
      refine fa fun z => ?_
      rcases z with z | ⟨z, _⟩
      · exact l1 z
      · rw [z] at l2; exact rlt_irr l2
    simp only [l2, decide_false, Bool.false_eq_true, if_false]
    refine rp_btest (rp_bin (rp_bin ?_))
    conv => (arg 1; simp [okV_iD, okV_dr, okV_dPt, okV_dP, okV_dG, okV_dC, okV_dB, ix_wd, iD_def, o1])
    refine rp_ok ?_
    try dsimp only
    try simp only [setsE_cons, setsE_nil, List.set_cons_zero, List.set_cons_succ, List.map_cons, List.map_nil, List.length_cons, List.length_nil, List.cons_append, List.nil_append, List.append_nil, List.replicate_succ, List.replicate_zero, Nat.zero_add, Nat.reduceAdd, Nat.reduceSub, wipeE_nil, wipeE_cons, ↓reduceIte, Bool.false_eq_true, Bool.not_true, Bool.not_false]
    conv => (arg 1; simp [okV_iD, okV_dr, okV_dPt, okV_dP, okV_dG, okV_dC, okV_dB, ix_wd, iD_def])
    refine rp_ok ?_
    try dsimp only
    try simp only [setsE_cons, setsE_nil, List.set_cons_zero, List.set_cons_succ, List.map_cons, List.map_nil, List.length_cons, List.length_nil, List.cons_append, List.nil_append, List.append_nil, List.replicate_succ, List.replicate_zero, Nat.zero_add, Nat.reduceAdd, Nat.reduceSub, wipeE_nil, wipeE_cons, ↓reduceIte, Bool.false_eq_true, Bool.not_true, Bool.not_false]
    refine rp_eq (i11 h) (rp_bin ?_)
    conv => (arg 1; simp [okV_iD, okV_dr, okV_dPt, okV_dP, okV_dG, okV_dC, okV_dB, ix_wd, iD_def, o2])
    refine rp_ok ?_
    try dsimp only
    try simp only [setsE_cons, setsE_nil, List.set_cons_zero, List.set_cons_succ, List.map_cons, List.map_nil, List.length_cons, List.length_nil, List.cons_append, List.nil_append, List.append_nil, List.replicate_succ, List.replicate_zero, Nat.zero_add, Nat.reduceAdd, Nat.reduceSub, wipeE_nil, wipeE_cons, ↓reduceIte, Bool.false_eq_true, Bool.not_true, Bool.not_false]
    conv => (arg 1; simp [okV_iD, okV_dr, okV_dPt, okV_dP, okV_dG, okV_dC, okV_dB, ix_wd, iD_def])
    refine rp_ok ?_
    try dsimp only
    try simp only [setsE_cons, setsE_nil, List.set_cons_zero, List.set_cons_succ, List.map_cons, List.map_nil, List.length_cons, List.length_nil, List.cons_append, List.nil_append, List.append_nil, List.replicate_succ, List.replicate_zero, Nat.zero_add, Nat.reduceAdd, Nat.reduceSub, wipeE_nil, wipeE_cons, ↓reduceIte, Bool.false_eq_true, Bool.not_true, Bool.not_false]
    refine rp_eq (i21 h) (rp_eq le ⟨_, rfl, ?_⟩)
    have ee : b.1 = a.1 := by grind
    by_cases l3 : olt b.2 a.2 = true
    · rw [l3]
      simp only [Bool.not_true, Bool.false_eq_true, if_false]
      (first | refine sp_seq ?_ | refine sp_set ?_ | refine sp_if ?_ | refine sp_ret ?_ | refine sp_expr ?_ | refine sp_asg ?_ | refine sp_next ?_ | refine sp_brk ?_ | refine sp_cont ?_ | refine sp_raise ?_ | refine sp_put ?_ | refine sp_retN ?_ | refine sp_par ?_ | refine sp_asgL ?_)
      try dsimp only
      (first | refine sp_seq ?_ | refine sp_set ?_ | refine sp_if ?_ | refine sp_ret ?_ | refine sp_expr ?_ | refine sp_asg ?_ | refine sp_next ?_ | refine sp_brk ?_ | refine sp_cont ?_ | refine sp_raise ?_ | refine sp_put ?_ | refine sp_retN ?_ | refine sp_par ?_ | refine sp_asgL ?_)
      try dsimp only
      conv => (arg 1; simp [okV_iD, okV_dr, okV_dPt, okV_dP, okV_dG, okV_dC, okV_dB, ix_wd, iD_def, o2])
      refine rp_ok ?_
      try dsimp only
      try simp only [setsE_cons, setsE_nil, List.set_cons_zero, List.set_cons_succ, List.map_cons, List.map_nil, List.length_cons, List.length_nil, List.cons_append, List.nil_append, List.append_nil, List.replicate_succ, List.replicate_zero, Nat.zero_add, Nat.reduceAdd, Nat.reduceSub, wipeE_nil, wipeE_cons, ↓reduceIte, Bool.false_eq_true, Bool.not_true, Bool.not_false]
      exact fb (.inr ⟨ee, l3⟩)
    · have l3 : olt b.2 a.2 = false := by simpa using l3
      rw [l3]
      simp only [Bool.not_false, if_true]
      (first | refine sp_seq ?_ | refine sp_set ?_ | refine sp_if ?_ | refine sp_ret ?_ | refine sp_expr ?_ | refine sp_asg ?_ | refine sp_next ?_ | refine sp_brk ?_ | refine sp_cont ?_ | refine sp_raise ?_ | refine sp_put ?_ | refine sp_retN ?_ | refine sp_par ?_ | refine sp_asgL ?_)
      try dsimp only
      conv => (arg 1; simp [okV_iD, okV_dr, okV_dPt, okV_dP, okV_dG, okV_dC, okV_dB, ix_wd, iD_def, o1])
      refine rp_ok ?_
      try dsimp only
      try simp only [setsE_cons, setsE_nil, List.set_cons_zero, List.set_cons_succ, List.map_cons, List.map_nil, List.length_cons, List.length_nil, List.cons_append, List.nil_append, List.append_nil, List.replicate_succ, List.replicate_zero, Nat.zero_add, Nat.reduceAdd, Nat.reduceSub, wipeE_nil, wipeE_cons, ↓reduceIte, Bool.false_eq_true, Bool.not_true, Bool.not_false]
      refine fa fun z => ?_
      rcases z with z | ⟨_, z⟩
      · exact l1 z
      · rw [l3] at z; cases z
end
end Zc
/-! G27B: the program's best trees of all parts. -/
namespace Zc
open PySem L2 Z Q Zl
def qF (gm : Gm) (w : List Nat) (kd : Nat) : List (Str × D) := [("grammar", dGm gm), ("word", .str (wS w)), ("known", .ref kd)]
structure KnC (h : IH) (gm : Gm) (w : List Nat) (kvs : List (List Int × D)) : Prop where
  val : ∀ p ∈ kvs, ∃ s a b : Nat, s < 6 ∧ a < 9 ∧ b < 9 ∧ p.1 = [(s : Int), (a : Int), (b : Int)] ∧ ∃ o, isC h p.2 o ∧ isBest (CdS gm (.v s) (cutN w a b)) o
  nd : (kvs.map (·.1)).Nodup
structure isQ (h : IH) (o kd : Nat) (gm : Gm) (w : List Nat) : Prop where
  ins : h[o]? = some (.ins "Best" (qF gm w kd))
  ne : o ≠ kd
  dic : ∃ kvs, h[kd]? = some (.dit kvs) ∧ KnC h gm w kvs
section
variable {h h' H : IH} {o kd : Nat} {gm : Gm} {w : List Nat} {Q : D → IH → Prop} {X : Exc → IH → Prop} {kvs : List (List Int × D)} {s a b : Nat}
theorem KnC.get (k : KnC h gm w kvs) {x : D} (e : getB kvs [(s : Int), (a : Int), (b : Int)] = some x) : ∃ o, isC h x o ∧ isBest (CdS gm (.v s) (cutN w a b)) o := by
  unfold getB at e
  obtain ⟨p, hp, rfl⟩ := Option.map_eq_some_iff.mp e
  have h1 := List.find?_some hp
  have h2 := List.mem_of_find?_eq_some hp
  obtain ⟨s', a', b', _, _, _, e2, e3⟩ := k.val p h2
  have h1 := of_decide_eq_true h1
  rw [e2] at h1
  injection h1 with i1 h1
  injection h1 with i2 h1
  injection h1 with i3 h1
  have := Int.ofNat.inj i1
  have := Int.ofNat.inj i2
  have := Int.ofNat.inj i3
  subst_vars
  exact e3
theorem KnC.len (k : KnC h gm w kvs) : kvs.length < 1000 := by
  have h := List.Nodup.length_le_of_subset (l₂ := (List.range 6).flatMap fun s : Nat => (List.range 9).flatMap fun a : Nat => (List.range 9).map fun b : Nat => [(s : Int), (a : Int), (b : Int)]) k.nd fun x hx => by
    obtain ⟨p, hp, rfl⟩ := List.mem_map.mp hx
    obtain ⟨s, a, b, hs, ha, hb, e, _⟩ := k.val p hp
    rw [e]
    exact List.mem_flatMap.mpr ⟨s, List.mem_range.mpr hs, List.mem_flatMap.mpr ⟨a, List.mem_range.mpr ha, List.mem_map.mpr ⟨b, List.mem_range.mpr hb, rfl⟩⟩⟩
  rw [List.length_map] at h
  have : ((List.range 6).flatMap fun s : Nat => (List.range 9).flatMap fun a : Nat => (List.range 9).map fun b : Nat => [(s : Int), (a : Int), (b : Int)]).length = 486 := by decide +kernel
  omega
theorem KnC.put (k : KnC h gm w kvs) (hs : s < 6) (ha : a < 9) (hb : b < 9) {x : D} {o : Option Cd} (c : isC h x o) (g : isBest (CdS gm (.v s) (cutN w a b)) o) : KnC h gm w (putB kvs [(s : Int), (a : Int), (b : Int)] x) := by
  unfold putB
  split
  · refine ⟨fun p hp => ?_, ?_⟩
    · obtain ⟨q, hq, rfl⟩ := List.mem_map.mp hp
      split
      · rename_i e
        exact ⟨s, a, b, hs, ha, hb, e, o, c, g⟩
      · exact k.val q hq
    · rw [List.map_map]
      have : (kvs.map ((fun x => x.1) ∘ fun kv => if kv.1 = [(s : Int), (a : Int), (b : Int)] then (kv.1, x) else kv)) = kvs.map (·.1) := List.map_congr_left fun p hp => by
        show (if p.1 = _ then (p.1, x) else p).1 = p.1
        split <;> rfl
      rw [this]
      exact k.nd
  · rename_i no
    refine ⟨fun p hp => ?_, ?_⟩
    · rcases List.mem_append.mp hp with h | h
      · exact k.val p h
      · rw [List.mem_singleton.mp h]
        exact ⟨s, a, b, hs, ha, hb, rfl, o, c, g⟩
    · rw [List.map_append, List.nodup_append]
      refine ⟨k.nd, by simp, fun y hy z hz e => no ?_⟩
      obtain ⟨p, hp, e2⟩ := List.mem_map.mp hy
      rw [List.mem_singleton.mp hz] at e
      exact List.any_eq_true.mpr ⟨p, hp, decide_eq_true (e2.trans e)⟩
theorem KnC.mono (k : KnC h gm w kvs) (A : ∀ d o, isC h d o → isC H d o) : KnC H gm w kvs := ⟨fun p hp => let ⟨s, a, b, h1, h2, h3, e, o, c, g⟩ := k.val p hp; ⟨s, a, b, h1, h2, h3, e, o, A _ _ c, g⟩, k.nd⟩
theorem isQ.ap (i : isQ h o kd gm w) (A : Ap h H) : isQ H o kd gm w := ⟨A.get i.ins, i.ne, let ⟨k, a, b⟩ := i.dic; ⟨k, A.get a, b.mono fun d o c => c.ap A⟩⟩
theorem isQ.flds (i : isQ h o kd gm w) : fldV (okF ["Best"] "grammar") "grammar" h (.ref o) = .ok (dGm gm) h ∧ fldV (okF ["Best"] "word") "word" h (.ref o) = .ok (.str (wS w)) h ∧ fldV (okF ["Best"] "known") "known" h (.ref o) = .ok (.ref kd) h :=
  ⟨fldV_of i.ins okF_1 rfl, fldV_of i.ins okF_1 rfl, fldV_of i.ins okF_1 rfl⟩
theorem isQ.mt (i : isQ h o kd gm w) : isIn "Best" "tree" h (.ref o) = true ∧ isIn "Best" "row" h (.ref o) = true := ⟨isIn_of i.ins rfl, isIn_of i.ins rfl⟩
/-- a best one found -/
def GotB (h : IH) (o kd : Nat) (gm : Gm) (w : List Nat) (S : Cd → Prop) (d : D) (H : IH) : Prop := Ax kd h H ∧ isQ H o kd gm w ∧ ∃ v, isC H d v ∧ isBest S v
theorem tq_got {S : Cd → Prop} {d : D} (I : isQ h o kd gm w) (g : GotB h o kd gm w S d H) : tq h (GotB h o kd gm w S) d H := by
  refine tq_any g fun e l => ?_
  obtain ⟨_, _, v, c, b⟩ := g
  refine ⟨.refl, I, v, ?_, b⟩
  cases v with
  | none => exact c
  | some x =>
    obtain ⟨k, rfl, q⟩ := c
    have kl : k < h.length := by
      have : (D.ref k).lt h.length = true := by
        have l : ((dr x.1).lt h.length && ((D.ref k).lt h.length && true)) = true := l
        simp at l
        exact l.2
      simpa [D.lt] using this
    refine ⟨k, rfl, ?_⟩
    rw [← e, List.getElem?_take, if_pos kl]
    exact q
theorem unf_tree {m : Nat} : F_Best_tree_r (m + 1) = defM 9 (M_Best_tree (F_Best_tree_r m) (F_Best_row_r m)) := rfl
theorem unf_brow {m : Nat} : F_Best_row_r (m + 1) = defM 8 (M_Best_row (F_Best_tree_r m) (F_Best_row_r m)) := rfl
def GivB (gm : Gm) (w : List Nat) (m : Nat) (s : Sy) (a b : Nat) : Prop := ∀ h o kd, isQ h o kd gm w → rp (F_Best_tree_r m [.ref o, dSy s, iD a, iD b] h) (GotB h o kd gm w (CdS gm s (cutN w a b))) noX
def GivE (gm : Gm) (w : List Nat) (m : Nat) (ss : List Sy) (a b : Nat) : Prop := ∀ h o kd, isQ h o kd gm w → rp (F_Best_row_r m [.ref o, .tup (ss.map dSy), iD a, iD b] h) (GotB h o kd gm w (CdR gm ss (cutN w a b))) noX
theorem best_let {c : Nat} {u : List Nat} : isBest (CdS gm (.l c) u) (if u = [c] then some (1, []) else none) := by
  split
  · rename_i e
    refine ⟨⟨(1, [c], []), DvS_let.mpr rfl, e.symm, rfl⟩, ?_⟩
    rintro x ⟨d, hd, _, rfl⟩ z
    rw [DvS_let.mp hd] at z
    exact bt_asymm z z
  · rename_i e
    rintro x ⟨d, hd, e2, _⟩
    rw [DvS_let.mp hd] at e2
    exact e e2.symm
theorem ev_tree_l (pg : Pg gm) {m c a b : Nat} (hm : 1 ≤ m) (lw : Lw w) (hw : w.length ≤ 8) (hb : b ≤ w.length) (oc : OkSy gm.length (.l c)) : GivB gm w m (.l c) a b := fun h o kd I => by
  obtain ⟨m, rfl⟩ : ∃ j, m = j + 1 := ⟨m - 1, by omega⟩
  rw [unf_tree]
  unfold M_Best_tree
  refine rp_def ?_
  have il : F_is_letter [dSy (.l c)] h = .ok (.bl true) h := ev_is_letter oc
  obtain ⟨f1, f2, f3⟩ := I.flds
  have bl := best_let (gm := gm) (c := c) (u := cutN w a b)
  try simp only [setsE_cons, setsE_nil, List.set_cons_zero, List.set_cons_succ, List.map_cons, List.map_nil, List.length_cons, List.length_nil, List.cons_append, List.nil_append, List.append_nil, List.replicate_succ, List.replicate_zero, Nat.zero_add, Nat.reduceAdd, Nat.reduceSub, wipeE_nil, wipeE_cons, ↓reduceIte, Bool.false_eq_true, Bool.not_true, Bool.not_false]
  (first | refine sp_seq ?_ | refine sp_set ?_ | refine sp_if ?_ | refine sp_ret ?_ | refine sp_expr ?_ | refine sp_asg ?_ | refine sp_next ?_ | refine sp_brk ?_ | refine sp_cont ?_ | refine sp_raise ?_ | refine sp_put ?_ | refine sp_retN ?_ | refine sp_par ?_ | refine sp_asgL ?_)
  try dsimp only
  (first | refine sp_seq ?_ | refine sp_set ?_ | refine sp_if ?_ | refine sp_ret ?_ | refine sp_expr ?_ | refine sp_asg ?_ | refine sp_next ?_ | refine sp_brk ?_ | refine sp_cont ?_ | refine sp_raise ?_ | refine sp_put ?_ | refine sp_retN ?_ | refine sp_par ?_ | refine sp_asgL ?_)
  try dsimp only
  conv => (arg 1; simp [okV_iD, okV_dr, okV_dPt, okV_dP, okV_dG, okV_dC, okV_dB, ix_wd, iD_def, okV_dSy, il])
  refine rp_ok ?_
  try dsimp only
  try simp only [setsE_cons, setsE_nil, List.set_cons_zero, List.set_cons_succ, List.map_cons, List.map_nil, List.length_cons, List.length_nil, List.cons_append, List.nil_append, List.append_nil, List.replicate_succ, List.replicate_zero, Nat.zero_add, Nat.reduceAdd, Nat.reduceSub, wipeE_nil, wipeE_cons, ↓reduceIte, Bool.false_eq_true, Bool.not_true, Bool.not_false]
  (first | refine sp_seq ?_ | refine sp_set ?_ | refine sp_if ?_ | refine sp_ret ?_ | refine sp_expr ?_ | refine sp_asg ?_ | refine sp_next ?_ | refine sp_brk ?_ | refine sp_cont ?_ | refine sp_raise ?_ | refine sp_put ?_ | refine sp_retN ?_ | refine sp_par ?_ | refine sp_asgL ?_)
  try dsimp only
  refine rp_ite ?_
  have e1 : slSM (fldM (okF ["Best"] "word") "word" (varM 0)) (someO (varM 2)) (someO (varM 3)) [some (.ref o), some (dSy (.l c)), some (iD a), some (iD b), none, none, none, none, none] h = .ok (.str (wS (cutN w a b))) h := sl_wS hw hb (by simp [fldM_eq, f2]) (by simp [okV_iD]) (by simp [okV_iD])
  have e2 : eqM (.str (wS (cutN w a b))) (dSy (.l c)) h = .ok (.bl (decide (cutN w a b = [c]))) h := eq_wS (v := [c]) lw.cut (fun x hx => by rw [List.mem_singleton.mp hx]; exact oc)
  refine rp_btest (rp_bin (rp_eq e1 ?_))
  conv => (arg 1; simp [okV_iD, okV_dr, okV_dPt, okV_dP, okV_dG, okV_dC, okV_dB, ix_wd, iD_def, okV_dSy])
  refine rp_ok ?_
  try dsimp only
  try simp only [setsE_cons, setsE_nil, List.set_cons_zero, List.set_cons_succ, List.map_cons, List.map_nil, List.length_cons, List.length_nil, List.cons_append, List.nil_append, List.append_nil, List.replicate_succ, List.replicate_zero, Nat.zero_add, Nat.reduceAdd, Nat.reduceSub, wipeE_nil, wipeE_cons, ↓reduceIte, Bool.false_eq_true, Bool.not_true, Bool.not_false]
  refine rp_eq e2 ?_
  by_cases z : cutN w a b = [c]
  · rw [decide_eq_true z]
    rw [if_pos z] at bl
    refine ⟨_, rfl, ?_⟩
    simp only [if_true]
    refine rp_tup (rp_acons ?_)
    conv => (arg 1; simp [okV_iD, okV_dr, okV_dPt, okV_dP, okV_dG, okV_dC, okV_dB, ix_wd, iD_def])
    refine rp_ok ?_
    try dsimp only
    try simp only [setsE_cons, setsE_nil, List.set_cons_zero, List.set_cons_succ, List.map_cons, List.map_nil, List.length_cons, List.length_nil, List.cons_append, List.nil_append, List.append_nil, List.replicate_succ, List.replicate_zero, Nat.zero_add, Nat.reduceAdd, Nat.reduceSub, wipeE_nil, wipeE_cons, ↓reduceIte, Bool.false_eq_true, Bool.not_true, Bool.not_false]
    refine rp_acons (rp_lst (rp_anil ⟨by simp, ?_⟩))
    intro k h1 A q n _
    refine rp_anil ⟨by simp, ?_⟩
    exact tq_got I ⟨A.ax, I.ap A, some (1, []), ⟨k, rfl, q⟩, bl⟩
  · rw [decide_eq_false z]
    rw [if_neg z] at bl
    refine ⟨_, rfl, ?_⟩
    simp only [Bool.false_eq_true, if_false]
    conv => (arg 1; simp [okV_iD, okV_dr, okV_dPt, okV_dP, okV_dG, okV_dC, okV_dB, ix_wd, iD_def])
    refine rp_ok ?_
    try dsimp only
    try simp only [setsE_cons, setsE_nil, List.set_cons_zero, List.set_cons_succ, List.map_cons, List.map_nil, List.length_cons, List.length_nil, List.cons_append, List.nil_append, List.append_nil, List.replicate_succ, List.replicate_zero, Nat.zero_add, Nat.reduceAdd, Nat.reduceSub, wipeE_nil, wipeE_cons, ↓reduceIte, Bool.false_eq_true, Bool.not_true, Bool.not_false]
    exact tq_got I ⟨.refl, I, none, rfl, bl⟩
/-- a rule's best -/
theorem best_rule {ss : List Sy} {u : List Nat} {r : Rat} (hr : 0 < r) {k i : Nat} {c : Cd} (g : isBest (CdR gm ss u) (some c)) : isBest (fun x => ∃ y, CdR gm ss u y ∧ x = (r * y.1, (k, i) :: y.2)) (some (r * c.1, (k, i) :: c.2)) := by
  refine ⟨⟨c, g.1, rfl⟩, ?_⟩
  rintro x ⟨y, hy, rfl⟩ z
  refine g.2 y hy ?_
  have cons : ∀ a b : List (Nat × Nat), olt ((k, i) :: a) ((k, i) :: b) = olt a b := fun a b => olt_app (a := [(k, i)])
  rcases z with z | ⟨z1, z2⟩
  · have z : r * c.1 < r * y.1 := z
    refine .inl ?_
    rcases Classical.em (c.1 < y.1) with q | q
    · exact q
    · have := Rat.mul_le_mul_of_nonneg_left (Rat.not_lt.mp q) (Rat.le_of_lt hr)
      exact absurd z (Rat.not_lt.mpr this)
  · have z1 : r * y.1 = r * c.1 := z1
    have z2 : olt ((k, i) :: y.2) ((k, i) :: c.2) = true := z2
    rw [cons] at z2
    refine .inr ⟨?_, z2⟩
    have rn : r ≠ 0 := by intro q; rw [q] at hr; exact rlt_irr hr
    grind
theorem CdR.rb (pg : Pg gm) {ss : List Sy} (os : ∀ s ∈ ss, OkSy gm.length s) {u : List Nat} (hu : u.length ≤ 8) {c : Cd} (h : CdR gm ss u c) : RB 400 c.1 := by
  obtain ⟨d, hd, e, rfl⟩ := h
  have o := (hd.ok pg os).sz
  rw [e] at o
  exact o.rb (by omega)
theorem CdS.rb (pg : Pg gm) {s : Sy} (os : OkSy gm.length s) {u : List Nat} (hu : u.length ≤ 8) {c : Cd} (h : CdS gm s u c) : RB 400 c.1 := by
  obtain ⟨d, hd, e, rfl⟩ := h
  have o := (hd.ok pg os).sz
  rw [e] at o
  exact o.rb (by omega)
theorem CdR.ou (pg : Pg gm) {ss : List Sy} (os : ∀ s ∈ ss, OkSy gm.length s) {u : List Nat} (hu : u.length ≤ 8) {c : Cd} (h : CdR gm ss u c) : c.2.length ≤ 16 := by
  obtain ⟨d, hd, e, rfl⟩ := h
  have o := (hd.ok pg os).ou
  rw [e] at o
  show d.2.2.length ≤ 16
  omega
theorem CdS.ou (pg : Pg gm) {s : Sy} (os : OkSy gm.length s) {u : List Nat} (hu : u.length ≤ 8) {c : Cd} (h : CdS gm s u c) : c.2.length ≤ 16 := by
  obtain ⟨d, hd, e, rfl⟩ := h
  have o := (hd.ok pg os).ou
  rw [e] at o
  show d.2.2.length ≤ 16
  omega
/-- the candidates of the first rules -/
def RuC (gm : Gm) (k : Nat) (rs : List Ru) (u : List Nat) (i : Nat) (x : Cd) : Prop := ∃ j r y, j < i ∧ rs[j]? = some r ∧ CdR gm r.2 u y ∧ x = (r.1 * y.1, (k, j) :: y.2)
theorem RuC.all {k : Nat} {rs : List Ru} (e : gm[k]? = some rs) {u : List Nat} {x : Cd} : RuC gm k rs u rs.length x ↔ CdS gm (.v k) u x := by
  constructor
  · rintro ⟨j, r, y, _, hr, ⟨d, hd, e1, rfl⟩, rfl⟩
    exact ⟨(r.1 * d.1, d.2.1, (k, j) :: d.2.2), DvS_var.mpr ⟨rs, j, r, d, e, hr, hd, rfl⟩, e1, rfl⟩
  · rintro ⟨d, hd, e1, rfl⟩
    obtain ⟨rs', j, r, d', h1, h2, h3, rfl⟩ := DvS_var.mp hd
    rw [e] at h1
    cases h1
    exact ⟨j, r, (d'.1, d'.2.2), (List.getElem?_eq_some_iff.mp h2).1, h2, ⟨d', h3, e1, rfl⟩, rfl⟩
theorem RuC.succ {k i : Nat} {rs : List Ru} {r : Ru} (e : rs[i]? = some r) {u : List Nat} {x : Cd} : RuC gm k rs u i x ∨ (∃ y, CdR gm r.2 u y ∧ x = (r.1 * y.1, (k, i) :: y.2)) ↔ RuC gm k rs u (i + 1) x := by
  constructor
  · rintro (⟨j, r', y, a, b, c, d⟩ | ⟨y, c, d⟩)
    · exact ⟨j, r', y, by omega, b, c, d⟩
    · exact ⟨i, r, y, by omega, e, c, d⟩
  · rintro ⟨j, r', y, a, b, c, d⟩
    by_cases z : j = i
    · subst z
      rw [e] at b
      cases b
      exact .inr ⟨y, c, d⟩
    · exact .inl ⟨j, r', y, by omega, b, c, d⟩
theorem ev_tree_v (pg : Pg gm) (lw : Lw w) {m k a b : Nat} (hw : w.length ≤ 8) (hb : b ≤ w.length) (ha : a ≤ 8) (ok : k < gm.length) (ih : ∀ rs ∈ gm, ∀ r ∈ rs, GivE gm w m r.2 a b) : GivB gm w (m + 1) (.v k) a b := fun h o kd I => by
  have gk : gm[k]? = some gm[k] := List.getElem?_eq_getElem ok
  have rm := List.mem_of_getElem? gk
  have k6 := pg.ok.l6
  have cl : (cutN w a b).length ≤ 8 := by rw [cutN_len hb]; omega
  rw [unf_tree]
  unfold M_Best_tree
  refine rp_def ?_
  have il : F_is_letter [dSy (.v k)] h = .ok (.bl false) h := ev_is_letter (many := gm.length) ok
  obtain ⟨f1, f2, f3⟩ := I.flds
  have key : keyI (.tup [dSy (.v k), iD a, iD b]) = some [(k : Int), (a : Int), (b : Int)] := rfl
  try simp only [setsE_cons, setsE_nil, List.set_cons_zero, List.set_cons_succ, List.map_cons, List.map_nil, List.length_cons, List.length_nil, List.cons_append, List.nil_append, List.append_nil, List.replicate_succ, List.replicate_zero, Nat.zero_add, Nat.reduceAdd, Nat.reduceSub, wipeE_nil, wipeE_cons, ↓reduceIte, Bool.false_eq_true, Bool.not_true, Bool.not_false]
  (first | refine sp_seq ?_ | refine sp_set ?_ | refine sp_if ?_ | refine sp_ret ?_ | refine sp_expr ?_ | refine sp_asg ?_ | refine sp_next ?_ | refine sp_brk ?_ | refine sp_cont ?_ | refine sp_raise ?_ | refine sp_put ?_ | refine sp_retN ?_ | refine sp_par ?_ | refine sp_asgL ?_)
  try dsimp only
  (first | refine sp_seq ?_ | refine sp_set ?_ | refine sp_if ?_ | refine sp_ret ?_ | refine sp_expr ?_ | refine sp_asg ?_ | refine sp_next ?_ | refine sp_brk ?_ | refine sp_cont ?_ | refine sp_raise ?_ | refine sp_put ?_ | refine sp_retN ?_ | refine sp_par ?_ | refine sp_asgL ?_)
  try dsimp only
  conv => (arg 1; simp [okV_iD, okV_dr, okV_dPt, okV_dP, okV_dG, okV_dC, okV_dB, ix_wd, iD_def, okV_dSy, il])
  refine rp_ok ?_
  try dsimp only
  try simp only [setsE_cons, setsE_nil, List.set_cons_zero, List.set_cons_succ, List.map_cons, List.map_nil, List.length_cons, List.length_nil, List.cons_append, List.nil_append, List.append_nil, List.replicate_succ, List.replicate_zero, Nat.zero_add, Nat.reduceAdd, Nat.reduceSub, wipeE_nil, wipeE_cons, ↓reduceIte, Bool.false_eq_true, Bool.not_true, Bool.not_false]
  (first | refine sp_seq ?_ | refine sp_set ?_ | refine sp_if ?_ | refine sp_ret ?_ | refine sp_expr ?_ | refine sp_asg ?_ | refine sp_next ?_ | refine sp_brk ?_ | refine sp_cont ?_ | refine sp_raise ?_ | refine sp_put ?_ | refine sp_retN ?_ | refine sp_par ?_ | refine sp_asgL ?_)
  try dsimp only
  (first | refine sp_seq ?_ | refine sp_set ?_ | refine sp_if ?_ | refine sp_ret ?_ | refine sp_expr ?_ | refine sp_asg ?_ | refine sp_next ?_ | refine sp_brk ?_ | refine sp_cont ?_ | refine sp_raise ?_ | refine sp_put ?_ | refine sp_retN ?_ | refine sp_par ?_ | refine sp_asgL ?_)
  try dsimp only
  (first | refine sp_seq ?_ | refine sp_set ?_ | refine sp_if ?_ | refine sp_ret ?_ | refine sp_expr ?_ | refine sp_asg ?_ | refine sp_next ?_ | refine sp_brk ?_ | refine sp_cont ?_ | refine sp_raise ?_ | refine sp_put ?_ | refine sp_retN ?_ | refine sp_par ?_ | refine sp_asgL ?_)
  try dsimp only
  obtain ⟨kvs, q, kn⟩ := I.dic
  have fin : ∀ (y4 y5 y6 y7 y8 : Option D) (H : IH), Ax kd h H → isQ H o kd gm w → (∀ kv, H[kd]? = some (.dit kv) → (getB kv [(k : Int), (a : Int), (b : Int)]).isSome) →
      sp (retM (binM dgetM (fldM (okF ["Best"] "known") "known" (varM 0)) (tupM (aconsM (varM 1) (aconsM (varM 2) (aconsM (varM 3) anilM))))) [some (.ref o), some (dSy (.v k)), some (iD a), some (iD b), y4, y5, y6, y7, y8] H) (dct h (GotB h o kd gm w (CdS gm (.v k) (cutN w a b))) noX) := fun y4 y5 y6 y7 y8 H U J sm => by
    obtain ⟨kv, q2, kn2⟩ := J.dic
    obtain ⟨x, hx⟩ := Option.isSome_iff_exists.mp (sm kv q2)
    obtain ⟨v, hv1, hv2⟩ := kn2.get hx
    obtain ⟨_, _, g3⟩ := J.flds
    (first | refine sp_seq ?_ | refine sp_set ?_ | refine sp_if ?_ | refine sp_ret ?_ | refine sp_expr ?_ | refine sp_asg ?_ | refine sp_next ?_ | refine sp_brk ?_ | refine sp_cont ?_ | refine sp_raise ?_ | refine sp_put ?_ | refine sp_retN ?_ | refine sp_par ?_ | refine sp_asgL ?_)
    try dsimp only
    refine rp_bin ?_
    have z1 : fldM (okF ["Best"] "known") "known" (varM 0) [some (.ref o), some (dSy (.v k)), some (iD a), some (iD b), y4, y5, y6, y7, y8] H = .ok (.ref kd) H := by simp [fldM_eq, g3]
    have z2 : tupM (aconsM (varM 1) (aconsM (varM 2) (aconsM (varM 3) anilM))) [some (.ref o), some (dSy (.v k)), some (iD a), some (iD b), y4, y5, y6, y7, y8] H = .ok (.tup [dSy (.v k), iD a, iD b]) H := by simp [tupM_eq, okV_dSy, okV_iD]
    refine rp_eq z1 (rp_eq z2 (rp_eq (dget_of q2 key hx) ?_))
    exact tq_got I ⟨U, J, v, hv1, hv2⟩
  refine rp_btest (rp_bin ?_)
  conv => (arg 1; simp [okV_iD, okV_dr, okV_dPt, okV_dP, okV_dG, okV_dC, okV_dB, ix_wd, iD_def, tupM_eq, okV_dSy, okV_iD])
  refine rp_ok ?_
  try dsimp only
  try simp only [setsE_cons, setsE_nil, List.set_cons_zero, List.set_cons_succ, List.map_cons, List.map_nil, List.length_cons, List.length_nil, List.cons_append, List.nil_append, List.append_nil, List.replicate_succ, List.replicate_zero, Nat.zero_add, Nat.reduceAdd, Nat.reduceSub, wipeE_nil, wipeE_cons, ↓reduceIte, Bool.false_eq_true, Bool.not_true, Bool.not_false]
  have z1 : fldM (okF ["Best"] "known") "known" (varM 0) [some (.ref o), some (dSy (.v k)), some (iD a), some (iD b), none, none, none, none, none] h = .ok (.ref kd) h := by simp [fldM_eq, f3]
  refine rp_eq z1 (rp_eq (din_of true q key) ⟨_, rfl, ?_⟩)
  cases hg : getB kvs [(k : Int), (a : Int), (b : Int)] with
  | some x =>
    rw [show (true ^^ (some x).isSome) = false from rfl]
    simp only [Bool.false_eq_true, if_false]
    (first | refine sp_seq ?_ | refine sp_set ?_ | refine sp_if ?_ | refine sp_ret ?_ | refine sp_expr ?_ | refine sp_asg ?_ | refine sp_next ?_ | refine sp_brk ?_ | refine sp_cont ?_ | refine sp_raise ?_ | refine sp_put ?_ | refine sp_retN ?_ | refine sp_par ?_ | refine sp_asgL ?_)
    try dsimp only
    exact fin _ _ _ _ _ _ .refl I fun kv q2 => by
      rw [q] at q2
      cases q2
      rw [hg]
      rfl
  | none =>
    rw [show (true ^^ (none : Option D).isSome) = true from rfl]
    simp only [if_true]
    (first | refine sp_seq ?_ | refine sp_set ?_ | refine sp_if ?_ | refine sp_ret ?_ | refine sp_expr ?_ | refine sp_asg ?_ | refine sp_next ?_ | refine sp_brk ?_ | refine sp_cont ?_ | refine sp_raise ?_ | refine sp_put ?_ | refine sp_retN ?_ | refine sp_par ?_ | refine sp_asgL ?_)
    try dsimp only
    (first | refine sp_seq ?_ | refine sp_set ?_ | refine sp_if ?_ | refine sp_ret ?_ | refine sp_expr ?_ | refine sp_asg ?_ | refine sp_next ?_ | refine sp_brk ?_ | refine sp_cont ?_ | refine sp_raise ?_ | refine sp_put ?_ | refine sp_retN ?_ | refine sp_par ?_ | refine sp_asgL ?_)
    try dsimp only
    conv => (arg 1; simp [okV_iD, okV_dr, okV_dPt, okV_dP, okV_dG, okV_dC, okV_dB, ix_wd, iD_def])
    refine rp_ok ?_
    try dsimp only
    try simp only [setsE_cons, setsE_nil, List.set_cons_zero, List.set_cons_succ, List.map_cons, List.map_nil, List.length_cons, List.length_nil, List.cons_append, List.nil_append, List.append_nil, List.replicate_succ, List.replicate_zero, Nat.zero_add, Nat.reduceAdd, Nat.reduceSub, wipeE_nil, wipeE_cons, ↓reduceIte, Bool.false_eq_true, Bool.not_true, Bool.not_false]
    have ix : ∀ K : IH, ixM (dGm gm) (dSy (.v k)) K = .ok (dRs gm[k]) K := fun K => ix_at (by rw [List.getElem?_map, gk]; rfl)
    (first | refine sp_seq ?_ | refine sp_set ?_ | refine sp_if ?_ | refine sp_ret ?_ | refine sp_expr ?_ | refine sp_asg ?_ | refine sp_next ?_ | refine sp_brk ?_ | refine sp_cont ?_ | refine sp_raise ?_ | refine sp_put ?_ | refine sp_retN ?_ | refine sp_par ?_ | refine sp_asgL ?_)
    try dsimp only
    refine sp_forE (ss := [4, 5, 6, 7, 8]) gm[k] dRu (fun i vs H => ∃ (d4 : D) (v : Option Cd) (y5 y6 y7 y8 : Option D), vs = [some d4, y5, y6, y7, y8] ∧ Ax kd h H ∧ isQ H o kd gm w ∧ isC H d4 v ∧ isBest (RuC gm k gm[k] (cutN w a b) i) v) (vs := [some .non, none, none, none, none]) (by simp [fldM_eq, f1, okV_dSy, ix, dRs]) rfl ⟨.non, none, _, _, _, _, rfl, .refl, I, rfl, fun c z => by obtain ⟨j, _, _, z, _⟩ := z; omega⟩ ?_ ?_
    · rintro i r vs H hi ⟨d4, v, y5, y6, y7, y8, rfl, U, J, c4, b4⟩
      refine ⟨_, rfl, ?_⟩
      have hrm := List.mem_of_getElem? hi
      obtain ⟨ch, ss⟩ := r
      have sy := ((pg.ok.rs _ rm).ru _ hrm).sy
      obtain ⟨d6, H1, e1, U1, J1, v6, c6, b6⟩ := rp_to (ih _ rm _ hrm H o kd J)
      obtain ⟨kv1, qd1, _⟩ := J.dic
      obtain ⟨kv2, qd2, _⟩ := J1.dic
      have c4' := c4.ax U1 qd1
      have pos : 0 < ch := by
        have n := c60_nn0 pg rm hrm
        have cc := ((pg.ok.rs _ rm).ru _ hrm).ch.1
        have ne : ch ≠ 0 := fun z => by
          have cc : 0 < ch.num := cc
          rw [z] at cc
          exact absurd cc (by decide)
        have n : 0 ≤ ch := n
        grind
      try simp only [setsE_cons, setsE_nil, List.set_cons_zero, List.set_cons_succ, List.map_cons, List.map_nil, List.length_cons, List.length_nil, List.cons_append, List.nil_append, List.append_nil, List.replicate_succ, List.replicate_zero, Nat.zero_add, Nat.reduceAdd, Nat.reduceSub, wipeE_nil, wipeE_cons, ↓reduceIte, Bool.false_eq_true, Bool.not_true, Bool.not_false]
      (first | refine sp_seq ?_ | refine sp_set ?_ | refine sp_if ?_ | refine sp_ret ?_ | refine sp_expr ?_ | refine sp_asg ?_ | refine sp_next ?_ | refine sp_brk ?_ | refine sp_cont ?_ | refine sp_raise ?_ | refine sp_put ?_ | refine sp_retN ?_ | refine sp_par ?_ | refine sp_asgL ?_)
      try dsimp only
      (first | refine sp_seq ?_ | refine sp_set ?_ | refine sp_if ?_ | refine sp_ret ?_ | refine sp_expr ?_ | refine sp_asg ?_ | refine sp_next ?_ | refine sp_brk ?_ | refine sp_cont ?_ | refine sp_raise ?_ | refine sp_put ?_ | refine sp_retN ?_ | refine sp_par ?_ | refine sp_asgL ?_)
      try dsimp only
      refine rp_om ?_
      conv => (arg 1; simp [okV_iD, okV_dr, okV_dPt, okV_dP, okV_dG, okV_dC, okV_dB, ix_wd, iD_def])
      refine rp_ok ?_
      try dsimp only
      try simp only [setsE_cons, setsE_nil, List.set_cons_zero, List.set_cons_succ, List.map_cons, List.map_nil, List.length_cons, List.length_nil, List.cons_append, List.nil_append, List.append_nil, List.replicate_succ, List.replicate_zero, Nat.zero_add, Nat.reduceAdd, Nat.reduceSub, wipeE_nil, wipeE_cons, ↓reduceIte, Bool.false_eq_true, Bool.not_true, Bool.not_false]
      refine ⟨J.mt.2, ?_⟩
      conv => (arg 1; simp [okV_iD, okV_dr, okV_dPt, okV_dP, okV_dG, okV_dC, okV_dB, ix_wd, iD_def, okV_iD, okV_dSs])
      refine rp_ok ?_
      try dsimp only
      try simp only [setsE_cons, setsE_nil, List.set_cons_zero, List.set_cons_succ, List.map_cons, List.map_nil, List.length_cons, List.length_nil, List.cons_append, List.nil_append, List.append_nil, List.replicate_succ, List.replicate_zero, Nat.zero_add, Nat.reduceAdd, Nat.reduceSub, wipeE_nil, wipeE_cons, ↓reduceIte, Bool.false_eq_true, Bool.not_true, Bool.not_false]
      refine rp_eq e1 ?_
      cases v6 with
      | none =>
        have c6 : d6 = .non := c6
        subst c6
        try simp only [setsE_cons, setsE_nil, List.set_cons_zero, List.set_cons_succ, List.map_cons, List.map_nil, List.length_cons, List.length_nil, List.cons_append, List.nil_append, List.append_nil, List.replicate_succ, List.replicate_zero, Nat.zero_add, Nat.reduceAdd, Nat.reduceSub, wipeE_nil, wipeE_cons, ↓reduceIte, Bool.false_eq_true, Bool.not_true, Bool.not_false]
        (first | refine sp_seq ?_ | refine sp_set ?_ | refine sp_if ?_ | refine sp_ret ?_ | refine sp_expr ?_ | refine sp_asg ?_ | refine sp_next ?_ | refine sp_brk ?_ | refine sp_cont ?_ | refine sp_raise ?_ | refine sp_put ?_ | refine sp_retN ?_ | refine sp_par ?_ | refine sp_asgL ?_)
        try dsimp only
        refine rp_btest (rp_bin ?_)
        conv => (arg 1; simp [okV_iD, okV_dr, okV_dPt, okV_dP, okV_dG, okV_dC, okV_dB, ix_wd, iD_def])
        refine rp_ok ?_
        try dsimp only
        try simp only [setsE_cons, setsE_nil, List.set_cons_zero, List.set_cons_succ, List.map_cons, List.map_nil, List.length_cons, List.length_nil, List.cons_append, List.nil_append, List.append_nil, List.replicate_succ, List.replicate_zero, Nat.zero_add, Nat.reduceAdd, Nat.reduceSub, wipeE_nil, wipeE_cons, ↓reduceIte, Bool.false_eq_true, Bool.not_true, Bool.not_false]
        conv => (arg 1; simp [okV_iD, okV_dr, okV_dPt, okV_dP, okV_dG, okV_dC, okV_dB, ix_wd, iD_def])
        refine rp_ok ?_
        try dsimp only
        try simp only [setsE_cons, setsE_nil, List.set_cons_zero, List.set_cons_succ, List.map_cons, List.map_nil, List.length_cons, List.length_nil, List.cons_append, List.nil_append, List.append_nil, List.replicate_succ, List.replicate_zero, Nat.zero_add, Nat.reduceAdd, Nat.reduceSub, wipeE_nil, wipeE_cons, ↓reduceIte, Bool.false_eq_true, Bool.not_true, Bool.not_false]
        refine rp_eq (show isM true .non .non H1 = .ok (.bl false) H1 from rfl) ⟨_, rfl, ?_⟩
        simp only [Bool.false_eq_true, if_false]
        (first | refine sp_seq ?_ | refine sp_set ?_ | refine sp_if ?_ | refine sp_ret ?_ | refine sp_expr ?_ | refine sp_asg ?_ | refine sp_next ?_ | refine sp_brk ?_ | refine sp_cont ?_ | refine sp_raise ?_ | refine sp_put ?_ | refine sp_retN ?_ | refine sp_par ?_ | refine sp_asgL ?_)
        try dsimp only
        refine turn_next (vs := [_, _, _, _, _]) rfl ⟨d4, v, _, _, _, _, rfl, U.trans U1, J1, c4', ?_⟩
        refine (isBest.or0 (T := fun x => ∃ y, CdR gm ss (cutN w a b) y ∧ x = (ch * y.1, (k, i) :: y.2)) b4 fun x hx => ?_).congr fun x => RuC.succ hi
        obtain ⟨y, hy, _⟩ := hx
        exact b6 y hy
      | some c =>
        obtain ⟨k6', rfl, q6⟩ := c6
        have o6 : ∀ K : IH, okV K (.tup [dr c.1, .ref k6']) = .ok (.tup [dr c.1, .ref k6']) K := fun _ => rfl
        have i0 : ∀ K : IH, ixM (.tup [dr c.1, .ref k6']) (.int 0) K = .ok (dr c.1) K := fun K => ixM_tup2_0
        have i1 : ∀ K : IH, ixM (.tup [dr c.1, .ref k6']) (.int 1) K = .ok (.ref k6') K := fun K => by simp
        have rc := CdR.rb pg sy cl b6.1
        have oc := CdR.ou pg sy cl b6.1
        have tm : ∀ K : IH, F_times [dr ch, dr c.1] K = .ok (dr (ch * c.1)) K := fun K => ev_times (c60_rb pg rm hrm) rc
        have br := best_rule (k := k) (i := i) pos b6
        have od4 : ∀ K : IH, isC K d4 v → okV K d4 = .ok d4 K := fun K z => by
          cases v with
          | none => have z : d4 = .non := z; rw [z]; rfl
          | some x => obtain ⟨_, rfl, _⟩ := z; rfl
        try simp only [setsE_cons, setsE_nil, List.set_cons_zero, List.set_cons_succ, List.map_cons, List.map_nil, List.length_cons, List.length_nil, List.cons_append, List.nil_append, List.append_nil, List.replicate_succ, List.replicate_zero, Nat.zero_add, Nat.reduceAdd, Nat.reduceSub, wipeE_nil, wipeE_cons, ↓reduceIte, Bool.false_eq_true, Bool.not_true, Bool.not_false]
        refine sp_if ?_
        refine rp_btest (rp_bin ?_)
        conv => (arg 1; simp [okV_iD, okV_dr, okV_dPt, okV_dP, okV_dG, okV_dC, okV_dB, ix_wd, iD_def, o6])
        refine rp_ok ?_
        try dsimp only
        try simp only [setsE_cons, setsE_nil, List.set_cons_zero, List.set_cons_succ, List.map_cons, List.map_nil, List.length_cons, List.length_nil, List.cons_append, List.nil_append, List.append_nil, List.replicate_succ, List.replicate_zero, Nat.zero_add, Nat.reduceAdd, Nat.reduceSub, wipeE_nil, wipeE_cons, ↓reduceIte, Bool.false_eq_true, Bool.not_true, Bool.not_false]
        conv => (arg 1; simp [okV_iD, okV_dr, okV_dPt, okV_dP, okV_dG, okV_dC, okV_dB, ix_wd, iD_def])
        refine rp_ok ?_
        try dsimp only
        try simp only [setsE_cons, setsE_nil, List.set_cons_zero, List.set_cons_succ, List.map_cons, List.map_nil, List.length_cons, List.length_nil, List.cons_append, List.nil_append, List.append_nil, List.replicate_succ, List.replicate_zero, Nat.zero_add, Nat.reduceAdd, Nat.reduceSub, wipeE_nil, wipeE_cons, ↓reduceIte, Bool.false_eq_true, Bool.not_true, Bool.not_false]
        refine rp_eq (show isM true (.tup [dr c.1, .ref k6']) .non H1 = .ok (.bl true) H1 from rfl) ⟨_, rfl, ?_⟩
        simp only [if_true]
        (first | refine sp_seq ?_ | refine sp_set ?_ | refine sp_if ?_ | refine sp_ret ?_ | refine sp_expr ?_ | refine sp_asg ?_ | refine sp_next ?_ | refine sp_brk ?_ | refine sp_cont ?_ | refine sp_raise ?_ | refine sp_put ?_ | refine sp_retN ?_ | refine sp_par ?_ | refine sp_asgL ?_)
        try dsimp only
        refine rp_call (rp_acons ?_)
        conv => (arg 1; simp [okV_iD, okV_dr, okV_dPt, okV_dP, okV_dG, okV_dC, okV_dB, ix_wd, iD_def, od4 _ c4'])
        refine rp_ok ?_
        try dsimp only
        try simp only [setsE_cons, setsE_nil, List.set_cons_zero, List.set_cons_succ, List.map_cons, List.map_nil, List.length_cons, List.length_nil, List.cons_append, List.nil_append, List.append_nil, List.replicate_succ, List.replicate_zero, Nat.zero_add, Nat.reduceAdd, Nat.reduceSub, wipeE_nil, wipeE_cons, ↓reduceIte, Bool.false_eq_true, Bool.not_true, Bool.not_false]
        refine rp_acons (rp_tup (rp_acons (rp_call (rp_acons ?_))))
        conv => (arg 1; simp [okV_iD, okV_dr, okV_dPt, okV_dP, okV_dG, okV_dC, okV_dB, ix_wd, iD_def, okV_dr])
        refine rp_ok ?_
        try dsimp only
        try simp only [setsE_cons, setsE_nil, List.set_cons_zero, List.set_cons_succ, List.map_cons, List.map_nil, List.length_cons, List.length_nil, List.cons_append, List.nil_append, List.append_nil, List.replicate_succ, List.replicate_zero, Nat.zero_add, Nat.reduceAdd, Nat.reduceSub, wipeE_nil, wipeE_cons, ↓reduceIte, Bool.false_eq_true, Bool.not_true, Bool.not_false]
        refine rp_acons (rp_bin ?_)
        conv => (arg 1; simp [okV_iD, okV_dr, okV_dPt, okV_dP, okV_dG, okV_dC, okV_dB, ix_wd, iD_def, o6])
        refine rp_ok ?_
        try dsimp only
        try simp only [setsE_cons, setsE_nil, List.set_cons_zero, List.set_cons_succ, List.map_cons, List.map_nil, List.length_cons, List.length_nil, List.cons_append, List.nil_append, List.append_nil, List.replicate_succ, List.replicate_zero, Nat.zero_add, Nat.reduceAdd, Nat.reduceSub, wipeE_nil, wipeE_cons, ↓reduceIte, Bool.false_eq_true, Bool.not_true, Bool.not_false]
        conv => (arg 1; simp [okV_iD, okV_dr, okV_dPt, okV_dP, okV_dG, okV_dC, okV_dB, ix_wd, iD_def])
        refine rp_ok ?_
        try dsimp only
        try simp only [setsE_cons, setsE_nil, List.set_cons_zero, List.set_cons_succ, List.map_cons, List.map_nil, List.length_cons, List.length_nil, List.cons_append, List.nil_append, List.append_nil, List.replicate_succ, List.replicate_zero, Nat.zero_add, Nat.reduceAdd, Nat.reduceSub, wipeE_nil, wipeE_cons, ↓reduceIte, Bool.false_eq_true, Bool.not_true, Bool.not_false]
        refine rp_eq (i0 H1) (rp_anil (rp_eq (tm H1) (rp_acons (rp_bin (rp_lst (rp_acons ?_))))))
        conv => (arg 1; simp [okV_iD, okV_dr, okV_dPt, okV_dP, okV_dG, okV_dC, okV_dB, ix_wd, iD_def, okV_dSy, okV_iD, tupM_eq])
        refine rp_ok ?_
        try dsimp only
        try simp only [setsE_cons, setsE_nil, List.set_cons_zero, List.set_cons_succ, List.map_cons, List.map_nil, List.length_cons, List.length_nil, List.cons_append, List.nil_append, List.append_nil, List.replicate_succ, List.replicate_zero, Nat.zero_add, Nat.reduceAdd, Nat.reduceSub, wipeE_nil, wipeE_cons, ↓reduceIte, Bool.false_eq_true, Bool.not_true, Bool.not_false]
        refine rp_anil ⟨by simp, ?_⟩
        intro k7 H2 A2 q7 n7 _
        refine rp_bin ?_
        conv => (arg 1; simp [okV_iD, okV_dr, okV_dPt, okV_dP, okV_dG, okV_dC, okV_dB, ix_wd, iD_def, o6])
        refine rp_ok ?_
        try dsimp only
        try simp only [setsE_cons, setsE_nil, List.set_cons_zero, List.set_cons_succ, List.map_cons, List.map_nil, List.length_cons, List.length_nil, List.cons_append, List.nil_append, List.append_nil, List.replicate_succ, List.replicate_zero, Nat.zero_add, Nat.reduceAdd, Nat.reduceSub, wipeE_nil, wipeE_cons, ↓reduceIte, Bool.false_eq_true, Bool.not_true, Bool.not_false]
        conv => (arg 1; simp [okV_iD, okV_dr, okV_dPt, okV_dP, okV_dG, okV_dC, okV_dB, ix_wd, iD_def])
        refine rp_ok ?_
        try dsimp only
        try simp only [setsE_cons, setsE_nil, List.set_cons_zero, List.set_cons_succ, List.map_cons, List.map_nil, List.length_cons, List.length_nil, List.cons_append, List.nil_append, List.append_nil, List.replicate_succ, List.replicate_zero, Nat.zero_add, Nat.reduceAdd, Nat.reduceSub, wipeE_nil, wipeE_cons, ↓reduceIte, Bool.false_eq_true, Bool.not_true, Bool.not_false]
        refine rp_eq (i1 H2) ?_
        refine rp_rw (add_lsts q7 (A2.get q6) (by simp; omega)) (rp_newL ?_)
        intro k8 H3 A3 q8 n8 _
        refine rp_anil ⟨by simp, rp_anil ?_⟩
        have c3 : isC H3 (.tup [dr (ch * c.1), .ref k8]) (some (ch * c.1, (k, i) :: c.2)) := ⟨k8, rfl, q8⟩
        have A23 := A2.trans A3
        refine rp_mono (ev_better (c4'.ap A23) c3 (fun x hx => ?_) (by
            obtain ⟨y, hy, e⟩ := br.1
            have : ch * c.1 = ch * y.1 := congrArg (fun z : Cd => z.1) e
            exact (CdS.rb (s := .v k) pg ok cl ((RuC.all gk).mp ⟨i, (ch, ss), c, (List.getElem?_eq_some_iff.mp hi).1, hi, b6.1, rfl⟩)))) (fun d H4 z => ?_) fun _ _ z => z.elim
        · subst hx
          obtain ⟨j, r', y, jl, hr', hy, e⟩ := b4.1
          exact CdS.rb (s := .v k) pg ok cl ((RuC.all gk).mp ⟨j, r', y, (List.getElem?_eq_some_iff.mp hr').1, hr', hy, e⟩)
        · obtain ⟨rfl, z⟩ := z
          exact turn_next (vs := [_, _, _, _, _]) rfl ⟨d, _, _, _, _, _, rfl, (U.trans U1).trans A23.ax, J1.ap A23, z, (isBest.or b4 br).congr fun x => RuC.succ hi⟩
    · rintro vs H ⟨d4, v, y5, y6, y7, y8, rfl, U, J, c4, b4⟩
      have b4 := b4.congr fun x => RuC.all (u := cutN w a b) (x := x) gk
      obtain ⟨kv2, q2, kn2⟩ := J.dic
      obtain ⟨_, _, g3⟩ := J.flds
      obtain ⟨H2, s1, U2, q3⟩ := setDi_of (d := d4) q2 key (by have := kn2.len; omega)
      have kn3 := (kn2.put (s := k) (a := a) (b := b) (by omega) (by omega) (by omega) c4 b4).mono fun d o c => c.ax U2.ax q2
      have od4 : okV H d4 = .ok d4 H := by
        cases v with
        | none => have z : d4 = .non := c4; rw [z]; rfl
        | some x => obtain ⟨_, rfl, _⟩ := c4; rfl
      try simp only [setsE_cons, setsE_nil, List.set_cons_zero, List.set_cons_succ, List.map_cons, List.map_nil, List.length_cons, List.length_nil, List.cons_append, List.nil_append, List.append_nil, List.replicate_succ, List.replicate_zero, Nat.zero_add, Nat.reduceAdd, Nat.reduceSub, wipeE_nil, wipeE_cons, ↓reduceIte, Bool.false_eq_true, Bool.not_true, Bool.not_false]
      (first | refine sp_seq ?_ | refine sp_set ?_ | refine sp_if ?_ | refine sp_ret ?_ | refine sp_expr ?_ | refine sp_asg ?_ | refine sp_next ?_ | refine sp_brk ?_ | refine sp_cont ?_ | refine sp_raise ?_ | refine sp_put ?_ | refine sp_retN ?_ | refine sp_par ?_ | refine sp_asgL ?_)
      try dsimp only
      conv => (arg 1; simp [okV_iD, okV_dr, okV_dPt, okV_dP, okV_dG, okV_dC, okV_dB, ix_wd, iD_def, od4])
      refine rp_ok ?_
      try dsimp only
      try simp only [setsE_cons, setsE_nil, List.set_cons_zero, List.set_cons_succ, List.map_cons, List.map_nil, List.length_cons, List.length_nil, List.cons_append, List.nil_append, List.append_nil, List.replicate_succ, List.replicate_zero, Nat.zero_add, Nat.reduceAdd, Nat.reduceSub, wipeE_nil, wipeE_cons, ↓reduceIte, Bool.false_eq_true, Bool.not_true, Bool.not_false]
      have z1 : fldM (okF ["Best"] "known") "known" (varM 0) [some (.ref o), some (dSy (.v k)), some (iD a), some (iD b), some d4, y5, y6, y7, y8] H = .ok (.ref kd) H := by simp [fldM_eq, g3]
      have z2 : tupM (aconsM (varM 1) (aconsM (varM 2) (aconsM (varM 3) anilM))) [some (.ref o), some (dSy (.v k)), some (iD a), some (iD b), some d4, y5, y6, y7, y8] H = .ok (.tup [dSy (.v k), iD a, iD b]) H := by simp [tupM_eq, okV_dSy, okV_iD]
      refine rp_eq z1 (rp_eq z2 ⟨H2, s1, ?_⟩)
      refine fin _ _ _ _ _ _ (U.trans U2.ax) ⟨U2.get J.ins J.ne, J.ne, _, q3, kn3⟩ fun kv q4 => ?_
      rw [q3] at q4
      cases q4
      rw [getB_put, if_pos rfl]
      rfl
theorem ev_brow1 (pg : Pg gm) {m a b : Nat} {s : Sy} (ih : GivB gm w m s a b) : GivE gm w (m + 1) [s] a b := fun h o kd I => by
  rw [unf_brow]
  unfold M_Best_row
  refine rp_def ?_
  have l1 : lenF [.tup ([s].map dSy)] h = .ok (.int 1) h := rfl
  have ix : ixM (.tup ([s].map dSy)) (.int 0) h = .ok (dSy s) h := rfl
  have ov : okV h (.tup ([s].map dSy)) = .ok (.tup ([s].map dSy)) h := rfl
  generalize D.tup ([s].map dSy) = sd at l1 ix ov
  try simp only [setsE_cons, setsE_nil, List.set_cons_zero, List.set_cons_succ, List.map_cons, List.map_nil, List.length_cons, List.length_nil, List.cons_append, List.nil_append, List.append_nil, List.replicate_succ, List.replicate_zero, Nat.zero_add, Nat.reduceAdd, Nat.reduceSub, wipeE_nil, wipeE_cons, ↓reduceIte, Bool.false_eq_true, Bool.not_true, Bool.not_false]
  (first | refine sp_seq ?_ | refine sp_set ?_ | refine sp_if ?_ | refine sp_ret ?_ | refine sp_expr ?_ | refine sp_asg ?_ | refine sp_next ?_ | refine sp_brk ?_ | refine sp_cont ?_ | refine sp_raise ?_ | refine sp_put ?_ | refine sp_retN ?_ | refine sp_par ?_ | refine sp_asgL ?_)
  try dsimp only
  (first | refine sp_seq ?_ | refine sp_set ?_ | refine sp_if ?_ | refine sp_ret ?_ | refine sp_expr ?_ | refine sp_asg ?_ | refine sp_next ?_ | refine sp_brk ?_ | refine sp_cont ?_ | refine sp_raise ?_ | refine sp_put ?_ | refine sp_retN ?_ | refine sp_par ?_ | refine sp_asgL ?_)
  try dsimp only
  conv => (arg 1; simp [okV_iD, okV_dr, okV_dPt, okV_dP, okV_dG, okV_dC, okV_dB, ix_wd, iD_def, ov, l1])
  refine rp_ok ?_
  try dsimp only
  try simp only [setsE_cons, setsE_nil, List.set_cons_zero, List.set_cons_succ, List.map_cons, List.map_nil, List.length_cons, List.length_nil, List.cons_append, List.nil_append, List.append_nil, List.replicate_succ, List.replicate_zero, Nat.zero_add, Nat.reduceAdd, Nat.reduceSub, wipeE_nil, wipeE_cons, ↓reduceIte, Bool.false_eq_true, Bool.not_true, Bool.not_false]
  (first | refine sp_seq ?_ | refine sp_set ?_ | refine sp_if ?_ | refine sp_ret ?_ | refine sp_expr ?_ | refine sp_asg ?_ | refine sp_next ?_ | refine sp_brk ?_ | refine sp_cont ?_ | refine sp_raise ?_ | refine sp_put ?_ | refine sp_retN ?_ | refine sp_par ?_ | refine sp_asgL ?_)
  try dsimp only
  refine rp_om ?_
  conv => (arg 1; simp [okV_iD, okV_dr, okV_dPt, okV_dP, okV_dG, okV_dC, okV_dB, ix_wd, iD_def])
  refine rp_ok ?_
  try dsimp only
  try simp only [setsE_cons, setsE_nil, List.set_cons_zero, List.set_cons_succ, List.map_cons, List.map_nil, List.length_cons, List.length_nil, List.cons_append, List.nil_append, List.append_nil, List.replicate_succ, List.replicate_zero, Nat.zero_add, Nat.reduceAdd, Nat.reduceSub, wipeE_nil, wipeE_cons, ↓reduceIte, Bool.false_eq_true, Bool.not_true, Bool.not_false]
  refine ⟨I.mt.1, ?_⟩
  conv => (arg 1; simp [okV_iD, okV_dr, okV_dPt, okV_dP, okV_dG, okV_dC, okV_dB, ix_wd, iD_def, ov, ix, okV_iD])
  refine rp_ok ?_
  try dsimp only
  try simp only [setsE_cons, setsE_nil, List.set_cons_zero, List.set_cons_succ, List.map_cons, List.map_nil, List.length_cons, List.length_nil, List.cons_append, List.nil_append, List.append_nil, List.replicate_succ, List.replicate_zero, Nat.zero_add, Nat.reduceAdd, Nat.reduceSub, wipeE_nil, wipeE_cons, ↓reduceIte, Bool.false_eq_true, Bool.not_true, Bool.not_false]
  refine rp_mono (ih h o kd I) (fun d H q => tq_got I ?_) fun _ _ q => q.elim
  exact ⟨q.1, q.2.1, let ⟨v, c, g⟩ := q.2.2; ⟨v, c, g.congr fun x => ⟨fun ⟨d, hd, e⟩ => ⟨d, DvR_one.mpr hd, e⟩, fun ⟨d, hd, e⟩ => ⟨d, DvR_one.mp hd, e⟩⟩⟩⟩
/-- the candidates of one split -/
def SpC (gm : Gm) (s : Sy) (ss : List Sy) (u : List Nat) (i : Nat) (c : Cd) : Prop := ∃ x y, CdS gm s (u.take (i + 1)) x ∧ CdR gm ss (u.drop (i + 1)) y ∧ c = (x.1 * y.1, x.2 ++ y.2)
def SpA (gm : Gm) (s : Sy) (ss : List Sy) (u : List Nat) (i : Nat) (c : Cd) : Prop := ∃ j, j < i ∧ SpC gm s ss u j c
theorem SpA.succ {s : Sy} {ss : List Sy} {u : List Nat} {i : Nat} {c : Cd} : SpA gm s ss u i c ∨ SpC gm s ss u i c ↔ SpA gm s ss u (i + 1) c := by
  constructor
  · rintro (⟨j, h, z⟩ | z)
    · exact ⟨j, by omega, z⟩
    · exact ⟨i, by omega, z⟩
  · rintro ⟨j, h, z⟩
    by_cases e : j = i
    · rw [e] at z
      exact .inr z
    · exact .inl ⟨j, by omega, z⟩
theorem SpA.all (pg : Pg gm) {s : Sy} {ss : List Sy} {u : List Nat} (os : OkSy gm.length s) (oss : ∀ x ∈ ss, OkSy gm.length x) {n : Nat} (hn : n = u.length - ss.length) {c : Cd} : SpA gm s ss u n c ↔ CdR gm (s :: ss) u c := by
  constructor
  · rintro ⟨j, h, x, y, ⟨dx, hx, ex, rfl⟩, ⟨dy, hy, ey, rfl⟩, rfl⟩
    refine ⟨mulD dx dy, DvR_cons.mpr ⟨dx, dy, hx, hy, rfl⟩, ?_, rfl⟩
    show dx.2.1 ++ dy.2.1 = u
    rw [ex, ey, List.take_append_drop]
  · rintro ⟨d, hd, e, rfl⟩
    obtain ⟨t, r, h1, h2, rfl⟩ := DvR_cons.mp hd
    have l1 := (h1.ok pg os).lo
    have l2 := (h2.ok pg oss).lo
    have e : t.2.1 ++ r.2.1 = u := e
    have lu : t.2.1.length + r.2.1.length = u.length := by rw [← e, List.length_append]
    refine ⟨t.2.1.length - 1, by omega, (t.1, t.2.2), (r.1, r.2.2), ⟨t, h1, ?_, rfl⟩, ⟨r, h2, ?_, rfl⟩, rfl⟩
    · rw [show t.2.1.length - 1 + 1 = t.2.1.length by omega, ← e, List.take_left']
      rfl
    · rw [show t.2.1.length - 1 + 1 = t.2.1.length by omega, ← e, List.drop_left']
      rfl
theorem ev_brow2 (pg : Pg gm) {m a b : Nat} {s t : Sy} {ss : List Sy} (hw : w.length ≤ 8) (hb : b ≤ w.length) (ab : a ≤ b) (b1 : 1 ≤ b) (l3 : (s :: t :: ss).length ≤ 3) (os : ∀ x ∈ s :: t :: ss, OkSy gm.length x) (ih1 : ∀ i, a + i + 1 < b → GivB gm w m s a (a + i + 1)) (ih2 : ∀ i, a + i + 1 < b → GivE gm w m (t :: ss) (a + i + 1) b) : GivE gm w (m + 1) (s :: t :: ss) a b := fun h o kd I => by
  have cl : (cutN w a b).length = b - a := cutN_len hb
  rw [unf_brow]
  unfold M_Best_row
  refine rp_def ?_
  have l1 : ∀ K : IH, lenF [.tup ((s :: t :: ss).map dSy)] K = .ok (iD (ss.length + 2)) K := fun K => by rw [lenF_tup, List.length_map]; rfl
  have q1 : ∀ K : IH, eqM (iD (ss.length + 2)) (.int 1) K = .ok (.bl false) K := fun K => by
    have := eq_nat (a := ss.length + 2) (b := 1) (h := K)
    rw [decide_eq_false (by omega)] at this
    exact this
  have ov : ∀ K : IH, okV K (.tup ((s :: t :: ss).map dSy)) = .ok (.tup ((s :: t :: ss).map dSy)) K := fun K => rfl
  have ix : ∀ K : IH, ixM (.tup ((s :: t :: ss).map dSy)) (.int 0) K = .ok (dSy s) K := fun K => ix_at (n := 0) rfl
  have sl : ∀ (env : Ev) (K : IH), varM 1 env K = .ok (.tup ((s :: t :: ss).map dSy)) K → slM (varM 1) (someO (constM (.int 1))) noneO env K = .ok (.tup ((t :: ss).map dSy)) K := fun env K e => slT1 e
  have os1 := os s List.mem_cons_self
  have os2 : ∀ x ∈ t :: ss, OkSy gm.length x := fun x hx => os x (List.mem_cons_of_mem _ hx)
  rw [List.length_cons, List.length_cons] at l3
  generalize hsd : D.tup ((s :: t :: ss).map dSy) = sd at l1 ix ov sl ⊢
  have a1 : ∀ K : IH, addM (iD a) (.int 1) K = .ok (iD (a + 1)) K := fun K => rfl
  have a2 : ∀ K : IH, subM (iD b) (iD (ss.length + 2)) K = .ok (.int ((b : Int) - ((ss.length + 2 : Nat) : Int))) K := fun K => rfl
  have a3 : ∀ K : IH, addM (.int ((b : Int) - ((ss.length + 2 : Nat) : Int))) (.int 2) K = .ok (iD (b - ss.length)) K := fun K => by
    show R.ok (D.int ((b : Int) - ((ss.length + 2 : Nat) : Int) + 2)) K = .ok (D.int ((b - ss.length : Nat) : Int)) K
    congr 2
    omega
  have od : ∀ (K : IH) (d : D) (v : Option Cd), isC K d v → okV K d = .ok d K := fun K d v z => by
    cases v with
    | none => have z : d = .non := z; rw [z]; rfl
    | some x => obtain ⟨_, rfl, _⟩ := z; rfl
  try simp only [setsE_cons, setsE_nil, List.set_cons_zero, List.set_cons_succ, List.map_cons, List.map_nil, List.length_cons, List.length_nil, List.cons_append, List.nil_append, List.append_nil, List.replicate_succ, List.replicate_zero, Nat.zero_add, Nat.reduceAdd, Nat.reduceSub, wipeE_nil, wipeE_cons, ↓reduceIte, Bool.false_eq_true, Bool.not_true, Bool.not_false]
  (first | refine sp_seq ?_ | refine sp_set ?_ | refine sp_if ?_ | refine sp_ret ?_ | refine sp_expr ?_ | refine sp_asg ?_ | refine sp_next ?_ | refine sp_brk ?_ | refine sp_cont ?_ | refine sp_raise ?_ | refine sp_put ?_ | refine sp_retN ?_ | refine sp_par ?_ | refine sp_asgL ?_)
  try dsimp only
  (first | refine sp_seq ?_ | refine sp_set ?_ | refine sp_if ?_ | refine sp_ret ?_ | refine sp_expr ?_ | refine sp_asg ?_ | refine sp_next ?_ | refine sp_brk ?_ | refine sp_cont ?_ | refine sp_raise ?_ | refine sp_put ?_ | refine sp_retN ?_ | refine sp_par ?_ | refine sp_asgL ?_)
  try dsimp only
  conv => (arg 1; simp [okV_iD, okV_dr, okV_dPt, okV_dP, okV_dG, okV_dC, okV_dB, ix_wd, iD_def, ov, l1, q1])
  refine rp_ok ?_
  try dsimp only
  try simp only [setsE_cons, setsE_nil, List.set_cons_zero, List.set_cons_succ, List.map_cons, List.map_nil, List.length_cons, List.length_nil, List.cons_append, List.nil_append, List.append_nil, List.replicate_succ, List.replicate_zero, Nat.zero_add, Nat.reduceAdd, Nat.reduceSub, wipeE_nil, wipeE_cons, ↓reduceIte, Bool.false_eq_true, Bool.not_true, Bool.not_false]
  (first | refine sp_seq ?_ | refine sp_set ?_ | refine sp_if ?_ | refine sp_ret ?_ | refine sp_expr ?_ | refine sp_asg ?_ | refine sp_next ?_ | refine sp_brk ?_ | refine sp_cont ?_ | refine sp_raise ?_ | refine sp_put ?_ | refine sp_retN ?_ | refine sp_par ?_ | refine sp_asgL ?_)
  try dsimp only
  (first | refine sp_seq ?_ | refine sp_set ?_ | refine sp_if ?_ | refine sp_ret ?_ | refine sp_expr ?_ | refine sp_asg ?_ | refine sp_next ?_ | refine sp_brk ?_ | refine sp_cont ?_ | refine sp_raise ?_ | refine sp_put ?_ | refine sp_retN ?_ | refine sp_par ?_ | refine sp_asgL ?_)
  try dsimp only
  (first | refine sp_seq ?_ | refine sp_set ?_ | refine sp_if ?_ | refine sp_ret ?_ | refine sp_expr ?_ | refine sp_asg ?_ | refine sp_next ?_ | refine sp_brk ?_ | refine sp_cont ?_ | refine sp_raise ?_ | refine sp_put ?_ | refine sp_retN ?_ | refine sp_par ?_ | refine sp_asgL ?_)
  try dsimp only
  conv => (arg 1; simp [okV_iD, okV_dr, okV_dPt, okV_dP, okV_dG, okV_dC, okV_dB, ix_wd, iD_def])
  refine rp_ok ?_
  try dsimp only
  try simp only [setsE_cons, setsE_nil, List.set_cons_zero, List.set_cons_succ, List.map_cons, List.map_nil, List.length_cons, List.length_nil, List.cons_append, List.nil_append, List.append_nil, List.replicate_succ, List.replicate_zero, Nat.zero_add, Nat.reduceAdd, Nat.reduceSub, wipeE_nil, wipeE_cons, ↓reduceIte, Bool.false_eq_true, Bool.not_true, Bool.not_false]
  (first | refine sp_seq ?_ | refine sp_set ?_ | refine sp_if ?_ | refine sp_ret ?_ | refine sp_expr ?_ | refine sp_asg ?_ | refine sp_next ?_ | refine sp_brk ?_ | refine sp_cont ?_ | refine sp_raise ?_ | refine sp_put ?_ | refine sp_retN ?_ | refine sp_par ?_ | refine sp_asgL ?_)
  try dsimp only
  refine sp_for (h1 := h) [4, 5, 6, 7] (List.range (b - ss.length - (a + 1))) (fun t => iD (a + 1 + t)) (fun i vs H => ∃ (d4 : D) (v : Option Cd) (y5 y6 y7 : Option D), vs = [some d4, y5, y6, y7] ∧ Ax kd h H ∧ isQ H o kd gm w ∧ isC H d4 v ∧ isBest (SpA gm s (t :: ss) (cutN w a b) i) v) (vs := [some .non, none, none, none]) (rng_2 (a := a + 1) (b := b - ss.length) (by simp [okV_iD, ov, a1, l1, a2, a3]; unfold iD; congr 1; omega) (by omega) (by omega)) rfl ⟨.non, none, _, _, _, rfl, .refl, I, rfl, fun c z => by obtain ⟨j, z, _⟩ := z; omega⟩ ?_ ?_
  · rintro i x vs H hi ⟨d4, v, y5, y6, y7, rfl, U, J, c4, b4⟩
    refine ⟨_, rfl, ?_⟩
    obtain ⟨rfl, il⟩ := range_at hi
    have e0 : a + 1 + i = a + i + 1 := by omega
    obtain ⟨d6, H1, e1, U1, J1, v6, c6, b6⟩ := rp_to (ih1 i (by omega) H o kd J)
    obtain ⟨d7, H2, e2, U2, J2, v7, c7, b7⟩ := rp_to (ih2 i (by omega) H1 o kd J1)
    obtain ⟨kv0, qd0, _⟩ := J.dic
    obtain ⟨kv1, qd1, _⟩ := J1.dic
    have c1 : cutN w a (a + i + 1) = (cutN w a b).take (i + 1) := by rw [cutN_take (by omega)]; rfl
    have c2 : cutN w (a + i + 1) b = (cutN w a b).drop (i + 1) := by rw [cutN_drop]; rfl
    rw [c1] at b6
    rw [c2] at b7
    have l6 : ((cutN w a b).take (i + 1)).length ≤ 8 := by rw [List.length_take]; omega
    have l7 : ((cutN w a b).drop (i + 1)).length ≤ 8 := by rw [List.length_drop]; omega
    rw [e0]
    try simp only [setsE_cons, setsE_nil, List.set_cons_zero, List.set_cons_succ, List.map_cons, List.map_nil, List.length_cons, List.length_nil, List.cons_append, List.nil_append, List.append_nil, List.replicate_succ, List.replicate_zero, Nat.zero_add, Nat.reduceAdd, Nat.reduceSub, wipeE_nil, wipeE_cons, ↓reduceIte, Bool.false_eq_true, Bool.not_true, Bool.not_false]
    (first | refine sp_seq ?_ | refine sp_set ?_ | refine sp_if ?_ | refine sp_ret ?_ | refine sp_expr ?_ | refine sp_asg ?_ | refine sp_next ?_ | refine sp_brk ?_ | refine sp_cont ?_ | refine sp_raise ?_ | refine sp_put ?_ | refine sp_retN ?_ | refine sp_par ?_ | refine sp_asgL ?_)
    try dsimp only
    (first | refine sp_seq ?_ | refine sp_set ?_ | refine sp_if ?_ | refine sp_ret ?_ | refine sp_expr ?_ | refine sp_asg ?_ | refine sp_next ?_ | refine sp_brk ?_ | refine sp_cont ?_ | refine sp_raise ?_ | refine sp_put ?_ | refine sp_retN ?_ | refine sp_par ?_ | refine sp_asgL ?_)
    try dsimp only
    refine rp_om ?_
    conv => (arg 1; simp [okV_iD, okV_dr, okV_dPt, okV_dP, okV_dG, okV_dC, okV_dB, ix_wd, iD_def])
    refine rp_ok ?_
    try dsimp only
    try simp only [setsE_cons, setsE_nil, List.set_cons_zero, List.set_cons_succ, List.map_cons, List.map_nil, List.length_cons, List.length_nil, List.cons_append, List.nil_append, List.append_nil, List.replicate_succ, List.replicate_zero, Nat.zero_add, Nat.reduceAdd, Nat.reduceSub, wipeE_nil, wipeE_cons, ↓reduceIte, Bool.false_eq_true, Bool.not_true, Bool.not_false]
    refine ⟨J.mt.1, ?_⟩
    conv => (arg 1; simp [okV_iD, okV_dr, okV_dPt, okV_dP, okV_dG, okV_dC, okV_dB, ix_wd, iD_def, ov, ix, okV_iD])
    refine rp_ok ?_
    try dsimp only
    try simp only [setsE_cons, setsE_nil, List.set_cons_zero, List.set_cons_succ, List.map_cons, List.map_nil, List.length_cons, List.length_nil, List.cons_append, List.nil_append, List.append_nil, List.replicate_succ, List.replicate_zero, Nat.zero_add, Nat.reduceAdd, Nat.reduceSub, wipeE_nil, wipeE_cons, ↓reduceIte, Bool.false_eq_true, Bool.not_true, Bool.not_false]
    refine rp_eq e1 ?_
    have noP : v6 = none ∨ v7 = none → isBest (SpA gm s (t :: ss) (cutN w a b) (i + 1)) v := fun z => (isBest.or0 (T := SpC gm s (t :: ss) (cutN w a b) i) b4 fun x hx => by
      obtain ⟨y, y', hy, hy', _⟩ := hx
      rcases z with rfl | rfl
      · exact b6 y hy
      · exact b7 y' hy').congr fun x => SpA.succ
    cases v6 with
    | none =>
      have c6 : d6 = .non := c6
      subst c6
      try simp only [setsE_cons, setsE_nil, List.set_cons_zero, List.set_cons_succ, List.map_cons, List.map_nil, List.length_cons, List.length_nil, List.cons_append, List.nil_append, List.append_nil, List.replicate_succ, List.replicate_zero, Nat.zero_add, Nat.reduceAdd, Nat.reduceSub, wipeE_nil, wipeE_cons, ↓reduceIte, Bool.false_eq_true, Bool.not_true, Bool.not_false]
      (first | refine sp_seq ?_ | refine sp_set ?_ | refine sp_if ?_ | refine sp_ret ?_ | refine sp_expr ?_ | refine sp_asg ?_ | refine sp_next ?_ | refine sp_brk ?_ | refine sp_cont ?_ | refine sp_raise ?_ | refine sp_put ?_ | refine sp_retN ?_ | refine sp_par ?_ | refine sp_asgL ?_)
      try dsimp only
      (first | refine sp_seq ?_ | refine sp_set ?_ | refine sp_if ?_ | refine sp_ret ?_ | refine sp_expr ?_ | refine sp_asg ?_ | refine sp_next ?_ | refine sp_brk ?_ | refine sp_cont ?_ | refine sp_raise ?_ | refine sp_put ?_ | refine sp_retN ?_ | refine sp_par ?_ | refine sp_asgL ?_)
      try dsimp only
      refine rp_ite (rp_btest (rp_bin ?_))
      conv => (arg 1; simp [okV_iD, okV_dr, okV_dPt, okV_dP, okV_dG, okV_dC, okV_dB, ix_wd, iD_def])
      refine rp_ok ?_
      try dsimp only
      try simp only [setsE_cons, setsE_nil, List.set_cons_zero, List.set_cons_succ, List.map_cons, List.map_nil, List.length_cons, List.length_nil, List.cons_append, List.nil_append, List.append_nil, List.replicate_succ, List.replicate_zero, Nat.zero_add, Nat.reduceAdd, Nat.reduceSub, wipeE_nil, wipeE_cons, ↓reduceIte, Bool.false_eq_true, Bool.not_true, Bool.not_false]
      conv => (arg 1; simp [okV_iD, okV_dr, okV_dPt, okV_dP, okV_dG, okV_dC, okV_dB, ix_wd, iD_def])
      refine rp_ok ?_
      try dsimp only
      try simp only [setsE_cons, setsE_nil, List.set_cons_zero, List.set_cons_succ, List.map_cons, List.map_nil, List.length_cons, List.length_nil, List.cons_append, List.nil_append, List.append_nil, List.replicate_succ, List.replicate_zero, Nat.zero_add, Nat.reduceAdd, Nat.reduceSub, wipeE_nil, wipeE_cons, ↓reduceIte, Bool.false_eq_true, Bool.not_true, Bool.not_false]
      refine rp_eq (show isM false .non .non H1 = .ok (.bl true) H1 from rfl) ⟨_, rfl, ?_⟩
      simp only [if_true]
      conv => (arg 1; simp [okV_iD, okV_dr, okV_dPt, okV_dP, okV_dG, okV_dC, okV_dB, ix_wd, iD_def])
      refine rp_ok ?_
      try dsimp only
      try simp only [setsE_cons, setsE_nil, List.set_cons_zero, List.set_cons_succ, List.map_cons, List.map_nil, List.length_cons, List.length_nil, List.cons_append, List.nil_append, List.append_nil, List.replicate_succ, List.replicate_zero, Nat.zero_add, Nat.reduceAdd, Nat.reduceSub, wipeE_nil, wipeE_cons, ↓reduceIte, Bool.false_eq_true, Bool.not_true, Bool.not_false]
      refine sp_if (rp_btest (rp_bin ?_))
      conv => (arg 1; simp [okV_iD, okV_dr, okV_dPt, okV_dP, okV_dG, okV_dC, okV_dB, ix_wd, iD_def])
      refine rp_ok ?_
      try dsimp only
      try simp only [setsE_cons, setsE_nil, List.set_cons_zero, List.set_cons_succ, List.map_cons, List.map_nil, List.length_cons, List.length_nil, List.cons_append, List.nil_append, List.append_nil, List.replicate_succ, List.replicate_zero, Nat.zero_add, Nat.reduceAdd, Nat.reduceSub, wipeE_nil, wipeE_cons, ↓reduceIte, Bool.false_eq_true, Bool.not_true, Bool.not_false]
      conv => (arg 1; simp [okV_iD, okV_dr, okV_dPt, okV_dP, okV_dG, okV_dC, okV_dB, ix_wd, iD_def])
      refine rp_ok ?_
      try dsimp only
      try simp only [setsE_cons, setsE_nil, List.set_cons_zero, List.set_cons_succ, List.map_cons, List.map_nil, List.length_cons, List.length_nil, List.cons_append, List.nil_append, List.append_nil, List.replicate_succ, List.replicate_zero, Nat.zero_add, Nat.reduceAdd, Nat.reduceSub, wipeE_nil, wipeE_cons, ↓reduceIte, Bool.false_eq_true, Bool.not_true, Bool.not_false]
      refine rp_eq (show isM true .non .non H1 = .ok (.bl false) H1 from rfl) ⟨_, rfl, ?_⟩
      simp only [Bool.false_eq_true, if_false]
      (first | refine sp_seq ?_ | refine sp_set ?_ | refine sp_if ?_ | refine sp_ret ?_ | refine sp_expr ?_ | refine sp_asg ?_ | refine sp_next ?_ | refine sp_brk ?_ | refine sp_cont ?_ | refine sp_raise ?_ | refine sp_put ?_ | refine sp_retN ?_ | refine sp_par ?_ | refine sp_asgL ?_)
      try dsimp only
      exact turn_next (vs := [_, _, _, _]) rfl ⟨d4, v, _, _, _, rfl, U.trans U1, J1, c4.ax U1 qd0, noP (.inl rfl)⟩
    | some x6 =>
      obtain ⟨k6, rfl, q6⟩ := c6
      have o6 : ∀ K : IH, okV K (.tup [dr x6.1, .ref k6]) = .ok (.tup [dr x6.1, .ref k6]) K := fun _ => rfl
      have i60 : ∀ K : IH, ixM (.tup [dr x6.1, .ref k6]) (.int 0) K = .ok (dr x6.1) K := fun K => ixM_tup2_0
      have i61 : ∀ K : IH, ixM (.tup [dr x6.1, .ref k6]) (.int 1) K = .ok (.ref k6) K := fun K => by simp
      have c4' := (c4.ax U1 qd0).ax U2 qd1
      have c6' : isC H2 (.tup [dr x6.1, .ref k6]) (some x6) := isC.ax U2 qd1 ⟨k6, rfl, q6⟩
      try simp only [setsE_cons, setsE_nil, List.set_cons_zero, List.set_cons_succ, List.map_cons, List.map_nil, List.length_cons, List.length_nil, List.cons_append, List.nil_append, List.append_nil, List.replicate_succ, List.replicate_zero, Nat.zero_add, Nat.reduceAdd, Nat.reduceSub, wipeE_nil, wipeE_cons, ↓reduceIte, Bool.false_eq_true, Bool.not_true, Bool.not_false]
      (first | refine sp_seq ?_ | refine sp_set ?_ | refine sp_if ?_ | refine sp_ret ?_ | refine sp_expr ?_ | refine sp_asg ?_ | refine sp_next ?_ | refine sp_brk ?_ | refine sp_cont ?_ | refine sp_raise ?_ | refine sp_put ?_ | refine sp_retN ?_ | refine sp_par ?_ | refine sp_asgL ?_)
      try dsimp only
      (first | refine sp_seq ?_ | refine sp_set ?_ | refine sp_if ?_ | refine sp_ret ?_ | refine sp_expr ?_ | refine sp_asg ?_ | refine sp_next ?_ | refine sp_brk ?_ | refine sp_cont ?_ | refine sp_raise ?_ | refine sp_put ?_ | refine sp_retN ?_ | refine sp_par ?_ | refine sp_asgL ?_)
      try dsimp only
      refine rp_ite (rp_btest (rp_bin ?_))
      conv => (arg 1; simp [okV_iD, okV_dr, okV_dPt, okV_dP, okV_dG, okV_dC, okV_dB, ix_wd, iD_def, o6])
      refine rp_ok ?_
      try dsimp only
      try simp only [setsE_cons, setsE_nil, List.set_cons_zero, List.set_cons_succ, List.map_cons, List.map_nil, List.length_cons, List.length_nil, List.cons_append, List.nil_append, List.append_nil, List.replicate_succ, List.replicate_zero, Nat.zero_add, Nat.reduceAdd, Nat.reduceSub, wipeE_nil, wipeE_cons, ↓reduceIte, Bool.false_eq_true, Bool.not_true, Bool.not_false]
      conv => (arg 1; simp [okV_iD, okV_dr, okV_dPt, okV_dP, okV_dG, okV_dC, okV_dB, ix_wd, iD_def])
      refine rp_ok ?_
      try dsimp only
      try simp only [setsE_cons, setsE_nil, List.set_cons_zero, List.set_cons_succ, List.map_cons, List.map_nil, List.length_cons, List.length_nil, List.cons_append, List.nil_append, List.append_nil, List.replicate_succ, List.replicate_zero, Nat.zero_add, Nat.reduceAdd, Nat.reduceSub, wipeE_nil, wipeE_cons, ↓reduceIte, Bool.false_eq_true, Bool.not_true, Bool.not_false]
      refine rp_eq (show isM false (.tup [dr x6.1, .ref k6]) .non H1 = .ok (.bl false) H1 from rfl) ⟨_, rfl, ?_⟩
      simp only [Bool.false_eq_true, if_false]
      refine rp_om ?_
      conv => (arg 1; simp [okV_iD, okV_dr, okV_dPt, okV_dP, okV_dG, okV_dC, okV_dB, ix_wd, iD_def])
      refine rp_ok ?_
      try dsimp only
      try simp only [setsE_cons, setsE_nil, List.set_cons_zero, List.set_cons_succ, List.map_cons, List.map_nil, List.length_cons, List.length_nil, List.cons_append, List.nil_append, List.append_nil, List.replicate_succ, List.replicate_zero, Nat.zero_add, Nat.reduceAdd, Nat.reduceSub, wipeE_nil, wipeE_cons, ↓reduceIte, Bool.false_eq_true, Bool.not_true, Bool.not_false]
      refine ⟨J1.mt.2, ?_⟩
      refine rp_acons (rp_eq (sl _ _ (by simp [ov])) ?_)
      conv => (arg 1; simp [okV_iD, okV_dr, okV_dPt, okV_dP, okV_dG, okV_dC, okV_dB, ix_wd, iD_def, okV_iD])
      refine rp_ok ?_
      try dsimp only
      try simp only [setsE_cons, setsE_nil, List.set_cons_zero, List.set_cons_succ, List.map_cons, List.map_nil, List.length_cons, List.length_nil, List.cons_append, List.nil_append, List.append_nil, List.replicate_succ, List.replicate_zero, Nat.zero_add, Nat.reduceAdd, Nat.reduceSub, wipeE_nil, wipeE_cons, ↓reduceIte, Bool.false_eq_true, Bool.not_true, Bool.not_false]
      refine rp_eq e2 ?_
      try simp only [setsE_cons, setsE_nil, List.set_cons_zero, List.set_cons_succ, List.map_cons, List.map_nil, List.length_cons, List.length_nil, List.cons_append, List.nil_append, List.append_nil, List.replicate_succ, List.replicate_zero, Nat.zero_add, Nat.reduceAdd, Nat.reduceSub, wipeE_nil, wipeE_cons, ↓reduceIte, Bool.false_eq_true, Bool.not_true, Bool.not_false]
      refine sp_if (rp_btest (rp_bin ?_))
      cases v7 with
      | none =>
        have c7 : d7 = .non := c7
        subst c7
        conv => (arg 1; simp [okV_iD, okV_dr, okV_dPt, okV_dP, okV_dG, okV_dC, okV_dB, ix_wd, iD_def])
        refine rp_ok ?_
        try dsimp only
        try simp only [setsE_cons, setsE_nil, List.set_cons_zero, List.set_cons_succ, List.map_cons, List.map_nil, List.length_cons, List.length_nil, List.cons_append, List.nil_append, List.append_nil, List.replicate_succ, List.replicate_zero, Nat.zero_add, Nat.reduceAdd, Nat.reduceSub, wipeE_nil, wipeE_cons, ↓reduceIte, Bool.false_eq_true, Bool.not_true, Bool.not_false]
        conv => (arg 1; simp [okV_iD, okV_dr, okV_dPt, okV_dP, okV_dG, okV_dC, okV_dB, ix_wd, iD_def])
        refine rp_ok ?_
        try dsimp only
        try simp only [setsE_cons, setsE_nil, List.set_cons_zero, List.set_cons_succ, List.map_cons, List.map_nil, List.length_cons, List.length_nil, List.cons_append, List.nil_append, List.append_nil, List.replicate_succ, List.replicate_zero, Nat.zero_add, Nat.reduceAdd, Nat.reduceSub, wipeE_nil, wipeE_cons, ↓reduceIte, Bool.false_eq_true, Bool.not_true, Bool.not_false]
        refine rp_eq (show isM true .non .non H2 = .ok (.bl false) H2 from rfl) ⟨_, rfl, ?_⟩
        simp only [Bool.false_eq_true, if_false]
        (first | refine sp_seq ?_ | refine sp_set ?_ | refine sp_if ?_ | refine sp_ret ?_ | refine sp_expr ?_ | refine sp_asg ?_ | refine sp_next ?_ | refine sp_brk ?_ | refine sp_cont ?_ | refine sp_raise ?_ | refine sp_put ?_ | refine sp_retN ?_ | refine sp_par ?_ | refine sp_asgL ?_)
        try dsimp only
        exact turn_next (vs := [_, _, _, _]) rfl ⟨d4, v, _, _, _, rfl, (U.trans U1).trans U2, J2, c4', noP (.inr rfl)⟩
      | some x7 =>
        obtain ⟨k7, rfl, q7⟩ := c7
        obtain ⟨k6', e6', q6'⟩ := c6'
        have e6' : k6' = k6 := by
          have := e6'
          simp at this
          exact this.symm
        subst e6'
        have o7 : ∀ K : IH, okV K (.tup [dr x7.1, .ref k7]) = .ok (.tup [dr x7.1, .ref k7]) K := fun _ => rfl
        have i70 : ∀ K : IH, ixM (.tup [dr x7.1, .ref k7]) (.int 0) K = .ok (dr x7.1) K := fun K => ixM_tup2_0
        have i71 : ∀ K : IH, ixM (.tup [dr x7.1, .ref k7]) (.int 1) K = .ok (.ref k7) K := fun K => by simp
        have r6 := CdS.rb pg os1 l6 b6.1
        have r7 := CdR.rb pg os2 l7 b7.1
        have u6 := CdS.ou pg os1 l6 b6.1
        have u7 := CdR.ou pg os2 l7 b7.1
        have tm : ∀ K : IH, F_times [dr x6.1, dr x7.1] K = .ok (dr (x6.1 * x7.1)) K := fun K => ev_times r6 r7
        have bm : isBest (SpC gm s (t :: ss) (cutN w a b) i) (some (x6.1 * x7.1, x6.2 ++ x7.2)) := best_mul pg os1 os2 b6 b7
        have up : ∀ x, SpA gm s (t :: ss) (cutN w a b) (i + 1) x → CdR gm (s :: t :: ss) (cutN w a b) x := fun x hx => by
          obtain ⟨j, jl, z⟩ := hx
          refine (SpA.all pg os1 os2 rfl).mp ⟨j, ?_, z⟩
          rw [cl, List.length_cons]
          omega
        conv => (arg 1; simp [okV_iD, okV_dr, okV_dPt, okV_dP, okV_dG, okV_dC, okV_dB, ix_wd, iD_def, o7])
        refine rp_ok ?_
        try dsimp only
        try simp only [setsE_cons, setsE_nil, List.set_cons_zero, List.set_cons_succ, List.map_cons, List.map_nil, List.length_cons, List.length_nil, List.cons_append, List.nil_append, List.append_nil, List.replicate_succ, List.replicate_zero, Nat.zero_add, Nat.reduceAdd, Nat.reduceSub, wipeE_nil, wipeE_cons, ↓reduceIte, Bool.false_eq_true, Bool.not_true, Bool.not_false]
        conv => (arg 1; simp [okV_iD, okV_dr, okV_dPt, okV_dP, okV_dG, okV_dC, okV_dB, ix_wd, iD_def])
        refine rp_ok ?_
        try dsimp only
        try simp only [setsE_cons, setsE_nil, List.set_cons_zero, List.set_cons_succ, List.map_cons, List.map_nil, List.length_cons, List.length_nil, List.cons_append, List.nil_append, List.append_nil, List.replicate_succ, List.replicate_zero, Nat.zero_add, Nat.reduceAdd, Nat.reduceSub, wipeE_nil, wipeE_cons, ↓reduceIte, Bool.false_eq_true, Bool.not_true, Bool.not_false]
        refine rp_eq (show isM true (.tup [dr x7.1, .ref k7]) .non H2 = .ok (.bl true) H2 from rfl) ⟨_, rfl, ?_⟩
        simp only [if_true]
        refine sp_set (rp_call (rp_acons ?_))
        conv => (arg 1; simp [okV_iD, okV_dr, okV_dPt, okV_dP, okV_dG, okV_dC, okV_dB, ix_wd, iD_def, od _ _ _ c4'])
        refine rp_ok ?_
        try dsimp only
        try simp only [setsE_cons, setsE_nil, List.set_cons_zero, List.set_cons_succ, List.map_cons, List.map_nil, List.length_cons, List.length_nil, List.cons_append, List.nil_append, List.append_nil, List.replicate_succ, List.replicate_zero, Nat.zero_add, Nat.reduceAdd, Nat.reduceSub, wipeE_nil, wipeE_cons, ↓reduceIte, Bool.false_eq_true, Bool.not_true, Bool.not_false]
        refine rp_acons (rp_tup (rp_acons (rp_call (rp_acons (rp_bin ?_)))))
        conv => (arg 1; simp [okV_iD, okV_dr, okV_dPt, okV_dP, okV_dG, okV_dC, okV_dB, ix_wd, iD_def, o6])
        refine rp_ok ?_
        try dsimp only
        try simp only [setsE_cons, setsE_nil, List.set_cons_zero, List.set_cons_succ, List.map_cons, List.map_nil, List.length_cons, List.length_nil, List.cons_append, List.nil_append, List.append_nil, List.replicate_succ, List.replicate_zero, Nat.zero_add, Nat.reduceAdd, Nat.reduceSub, wipeE_nil, wipeE_cons, ↓reduceIte, Bool.false_eq_true, Bool.not_true, Bool.not_false]
        conv => (arg 1; simp [okV_iD, okV_dr, okV_dPt, okV_dP, okV_dG, okV_dC, okV_dB, ix_wd, iD_def])
        refine rp_ok ?_
        try dsimp only
        try simp only [setsE_cons, setsE_nil, List.set_cons_zero, List.set_cons_succ, List.map_cons, List.map_nil, List.length_cons, List.length_nil, List.cons_append, List.nil_append, List.append_nil, List.replicate_succ, List.replicate_zero, Nat.zero_add, Nat.reduceAdd, Nat.reduceSub, wipeE_nil, wipeE_cons, ↓reduceIte, Bool.false_eq_true, Bool.not_true, Bool.not_false]
        refine rp_eq (i60 H2) (rp_acons (rp_bin ?_))
        conv => (arg 1; simp [okV_iD, okV_dr, okV_dPt, okV_dP, okV_dG, okV_dC, okV_dB, ix_wd, iD_def, o7])
        refine rp_ok ?_
        try dsimp only
        try simp only [setsE_cons, setsE_nil, List.set_cons_zero, List.set_cons_succ, List.map_cons, List.map_nil, List.length_cons, List.length_nil, List.cons_append, List.nil_append, List.append_nil, List.replicate_succ, List.replicate_zero, Nat.zero_add, Nat.reduceAdd, Nat.reduceSub, wipeE_nil, wipeE_cons, ↓reduceIte, Bool.false_eq_true, Bool.not_true, Bool.not_false]
        conv => (arg 1; simp [okV_iD, okV_dr, okV_dPt, okV_dP, okV_dG, okV_dC, okV_dB, ix_wd, iD_def])
        refine rp_ok ?_
        try dsimp only
        try simp only [setsE_cons, setsE_nil, List.set_cons_zero, List.set_cons_succ, List.map_cons, List.map_nil, List.length_cons, List.length_nil, List.cons_append, List.nil_append, List.append_nil, List.replicate_succ, List.replicate_zero, Nat.zero_add, Nat.reduceAdd, Nat.reduceSub, wipeE_nil, wipeE_cons, ↓reduceIte, Bool.false_eq_true, Bool.not_true, Bool.not_false]
        refine rp_eq (i70 H2) (rp_anil (rp_eq (tm H2) (rp_acons (rp_bin (rp_bin ?_)))))
        conv => (arg 1; simp [okV_iD, okV_dr, okV_dPt, okV_dP, okV_dG, okV_dC, okV_dB, ix_wd, iD_def, o6])
        refine rp_ok ?_
        try dsimp only
        try simp only [setsE_cons, setsE_nil, List.set_cons_zero, List.set_cons_succ, List.map_cons, List.map_nil, List.length_cons, List.length_nil, List.cons_append, List.nil_append, List.append_nil, List.replicate_succ, List.replicate_zero, Nat.zero_add, Nat.reduceAdd, Nat.reduceSub, wipeE_nil, wipeE_cons, ↓reduceIte, Bool.false_eq_true, Bool.not_true, Bool.not_false]
        conv => (arg 1; simp [okV_iD, okV_dr, okV_dPt, okV_dP, okV_dG, okV_dC, okV_dB, ix_wd, iD_def])
        refine rp_ok ?_
        try dsimp only
        try simp only [setsE_cons, setsE_nil, List.set_cons_zero, List.set_cons_succ, List.map_cons, List.map_nil, List.length_cons, List.length_nil, List.cons_append, List.nil_append, List.append_nil, List.replicate_succ, List.replicate_zero, Nat.zero_add, Nat.reduceAdd, Nat.reduceSub, wipeE_nil, wipeE_cons, ↓reduceIte, Bool.false_eq_true, Bool.not_true, Bool.not_false]
        refine rp_eq (i61 H2) (rp_bin ?_)
        conv => (arg 1; simp [okV_iD, okV_dr, okV_dPt, okV_dP, okV_dG, okV_dC, okV_dB, ix_wd, iD_def, o7])
        refine rp_ok ?_
        try dsimp only
        try simp only [setsE_cons, setsE_nil, List.set_cons_zero, List.set_cons_succ, List.map_cons, List.map_nil, List.length_cons, List.length_nil, List.cons_append, List.nil_append, List.append_nil, List.replicate_succ, List.replicate_zero, Nat.zero_add, Nat.reduceAdd, Nat.reduceSub, wipeE_nil, wipeE_cons, ↓reduceIte, Bool.false_eq_true, Bool.not_true, Bool.not_false]
        conv => (arg 1; simp [okV_iD, okV_dr, okV_dPt, okV_dP, okV_dG, okV_dC, okV_dB, ix_wd, iD_def])
        refine rp_ok ?_
        try dsimp only
        try simp only [setsE_cons, setsE_nil, List.set_cons_zero, List.set_cons_succ, List.map_cons, List.map_nil, List.length_cons, List.length_nil, List.cons_append, List.nil_append, List.append_nil, List.replicate_succ, List.replicate_zero, Nat.zero_add, Nat.reduceAdd, Nat.reduceSub, wipeE_nil, wipeE_cons, ↓reduceIte, Bool.false_eq_true, Bool.not_true, Bool.not_false]
        refine rp_eq (i71 H2) ?_
        refine rp_rw (add_lsts q6' q7 (by simp; omega)) (rp_newL ?_)
        intro k8 H3 A3 q8 n8 _
        refine rp_anil ⟨by simp, rp_anil ?_⟩
        rw [← List.map_append] at q8
        have c3 : isC H3 (.tup [dr (x6.1 * x7.1), .ref k8]) (some (x6.1 * x7.1, x6.2 ++ x7.2)) := ⟨k8, rfl, q8⟩
        refine rp_mono (ev_better (c4'.ap A3) c3 (fun x hx => ?_) (CdR.rb pg os (by omega) (up _ (SpA.succ.mp (.inr bm.1))))) (fun d H4 z => ?_) fun _ _ z => z.elim
        · subst hx
          exact CdR.rb pg os (by omega) (up _ (SpA.succ.mp (.inl b4.1)))
        · obtain ⟨rfl, z⟩ := z
          exact turn_next (vs := [_, _, _, _]) rfl ⟨d, _, _, _, _, rfl, ((U.trans U1).trans U2).trans A3.ax, J2.ap A3, z, (isBest.or b4 bm).congr fun x => SpA.succ⟩
  · rintro vs H ⟨d4, v, y5, y6, y7, rfl, U, J, c4, b4⟩
    rw [List.length_range] at b4
    try simp only [setsE_cons, setsE_nil, List.set_cons_zero, List.set_cons_succ, List.map_cons, List.map_nil, List.length_cons, List.length_nil, List.cons_append, List.nil_append, List.append_nil, List.replicate_succ, List.replicate_zero, Nat.zero_add, Nat.reduceAdd, Nat.reduceSub, wipeE_nil, wipeE_cons, ↓reduceIte, Bool.false_eq_true, Bool.not_true, Bool.not_false]
    (first | refine sp_seq ?_ | refine sp_set ?_ | refine sp_if ?_ | refine sp_ret ?_ | refine sp_expr ?_ | refine sp_asg ?_ | refine sp_next ?_ | refine sp_brk ?_ | refine sp_cont ?_ | refine sp_raise ?_ | refine sp_put ?_ | refine sp_retN ?_ | refine sp_par ?_ | refine sp_asgL ?_)
    try dsimp only
    conv => (arg 1; simp [okV_iD, okV_dr, okV_dPt, okV_dP, okV_dG, okV_dC, okV_dB, ix_wd, iD_def, od _ _ _ c4])
    refine rp_ok ?_
    try dsimp only
    try simp only [setsE_cons, setsE_nil, List.set_cons_zero, List.set_cons_succ, List.map_cons, List.map_nil, List.length_cons, List.length_nil, List.cons_append, List.nil_append, List.append_nil, List.replicate_succ, List.replicate_zero, Nat.zero_add, Nat.reduceAdd, Nat.reduceSub, wipeE_nil, wipeE_cons, ↓reduceIte, Bool.false_eq_true, Bool.not_true, Bool.not_false]
    exact tq_got I ⟨U, J, v, c4, b4.congr fun x => SpA.all pg os1 os2 (by rw [cl, List.length_cons]; omega)⟩
/-- the best trees of all parts -/
theorem ev_bests (pg : Pg gm) (lw : Lw w) (hw : w.length ≤ 8) : ∀ (n : Nat) (a b m : Nat), a < b → b ≤ w.length → b - a ≤ n →
    (∀ s, OkSy gm.length s → 3 * n + 2 ≤ m → GivB gm w m s a b) ∧ (∀ ss : List Sy, (∀ s ∈ ss, OkSy gm.length s) → 1 ≤ ss.length → ss.length ≤ 3 → 3 * n + 3 ≤ m → GivE gm w m ss a b)
  | 0, a, b, m, h1, _, h2 => by omega
  | n + 1, a, b, m, ab, hb, hn => by
    have row2 : ∀ m (s t : Sy) (ss : List Sy), (∀ x ∈ s :: t :: ss, OkSy gm.length x) → (s :: t :: ss).length ≤ 3 → 3 * (n + 1) + 1 ≤ m → GivE gm w m (s :: t :: ss) a b := fun m s t ss os l3 hm => by
      obtain ⟨m, rfl⟩ : ∃ j, m = j + 1 := ⟨m - 1, by omega⟩
      refine ev_brow2 pg hw hb (by omega) (by omega) l3 os (fun i hi => ?_) (fun i hi => ?_)
      · exact (ev_bests pg lw hw n a (a + i + 1) m (by omega) (by omega) (by omega)).1 s (os s List.mem_cons_self) (by omega)
      · exact (ev_bests pg lw hw n (a + i + 1) b m (by omega) (by omega) (by omega)).2 (t :: ss) (fun x hx => os x (List.mem_cons_of_mem _ hx)) (by simp) (by rw [List.length_cons] at l3; omega) (by omega)
    have ch : ∀ m s, OkSy gm.length s → 3 * (n + 1) + 2 ≤ m → GivB gm w m s a b := fun m s os hm => by
      cases s with
      | l c => exact ev_tree_l pg (by omega) lw hw hb os
      | v k =>
        obtain ⟨m, rfl⟩ : ∃ j, m = j + 1 := ⟨m - 1, by omega⟩
        refine ev_tree_v pg lw hw hb (by omega) os (fun rs hrs r hr => ?_)
        have oks := ((pg.ok.rs rs hrs).ru r hr).sy
        have l3 := pg.s3 rs hrs r hr
        rcases pg.pl rs hrs r hr with ⟨c, e⟩ | p
        · rw [e] at oks ⊢
          obtain ⟨m, rfl⟩ : ∃ j, m = j + 1 := ⟨m - 1, by omega⟩
          exact ev_brow1 pg (ev_tree_l pg (by omega) lw hw hb (oks _ List.mem_cons_self))
        · match r.2, p, oks, l3 with
          | s :: t :: ss, _, oks, l3 => exact row2 m s t ss oks l3 (by omega)
    refine ⟨fun s os hm => ch m s os hm, fun ss os l1 l3 hm => ?_⟩
    match ss, os, l1, l3 with
    | [s], os, _, _ =>
      obtain ⟨m, rfl⟩ : ∃ j, m = j + 1 := ⟨m - 1, by omega⟩
      exact ev_brow1 pg (ch m s (os s List.mem_cons_self) (by omega))
    | s :: t :: ss, os, _, l3 => exact row2 m s t ss os l3 (by omega)
end
end Zc
namespace Zl
open PySem L2 Z Zc Q
section
variable {h H : IH} {o kd : Nat} {gm : Gm} {w u : List Nat} {Q : D → IH → Prop} {X : Exc → IH → Prop}
theorem mk_Best {env : Ev} {ma : MA} (ea : ma env h = .ok [dGm gm, .str (wS w)] h) (fin : ∀ o kd H, Ap h H → h.length ≤ o → h.length ≤ kd → isQ H o kd gm w → Q (.ref o) H) : rp (mkM "Best" F_Best_init ma env h) Q X := by
  refine rp_mk ?_
  refine rp_eq ea ?_
  intro h1 A1 l1 q1
  unfold F_Best_init M_Best_init
  refine rp_def ?_
  simp only [setsE_cons, setsE_nil, List.set_cons_zero, List.set_cons_succ, List.map_cons, List.map_nil, List.length_cons, List.length_nil, List.cons_append, List.nil_append, List.append_nil, List.replicate_succ, List.replicate_zero, Nat.zero_add, Nat.reduceAdd, Nat.reduceSub, wipeE_nil, wipeE_cons, ↓reduceIte, Bool.false_eq_true, Bool.not_true, Bool.not_false]
  (first | refine sp_seq ?_ | refine sp_set ?_ | refine sp_if ?_ | refine sp_ret ?_ | refine sp_expr ?_ | refine sp_asg ?_ | refine sp_next ?_ | refine sp_brk ?_ | refine sp_cont ?_ | refine sp_raise ?_ | refine sp_put ?_ | refine sp_retN ?_ | refine sp_par ?_ | refine sp_asgL ?_)
  try dsimp only
  refine sp_ost ?_
  conv => (arg 1; simp [okV_iD, okV_dr, okV_dPt, okV_dP, okV_dG, okV_dC, okV_dB, ix_wd, iD_def, okV_dGm])
  refine rp_ok ?_
  try dsimp only
  try simp only [setsE_cons, setsE_nil, List.set_cons_zero, List.set_cons_succ, List.map_cons, List.map_nil, List.length_cons, List.length_nil, List.cons_append, List.nil_append, List.append_nil, List.replicate_succ, List.replicate_zero, Nat.zero_add, Nat.reduceAdd, Nat.reduceSub, wipeE_nil, wipeE_cons, ↓reduceIte, Bool.false_eq_true, Bool.not_true, Bool.not_false]
  conv => (arg 1; simp [okV_iD, okV_dr, okV_dPt, okV_dP, okV_dG, okV_dC, okV_dB, ix_wd, iD_def])
  refine rp_ok ?_
  try dsimp only
  try simp only [setsE_cons, setsE_nil, List.set_cons_zero, List.set_cons_succ, List.map_cons, List.map_nil, List.length_cons, List.length_nil, List.cons_append, List.nil_append, List.append_nil, List.replicate_succ, List.replicate_zero, Nat.zero_add, Nat.reduceAdd, Nat.reduceSub, wipeE_nil, wipeE_cons, ↓reduceIte, Bool.false_eq_true, Bool.not_true, Bool.not_false]
  refine ⟨_, _, _, rfl, q1, okF_1, by decide, fun h2 U2 q2 => ?_⟩
  try simp only [setsE_cons, setsE_nil, List.set_cons_zero, List.set_cons_succ, List.map_cons, List.map_nil, List.length_cons, List.length_nil, List.cons_append, List.nil_append, List.append_nil, List.replicate_succ, List.replicate_zero, Nat.zero_add, Nat.reduceAdd, Nat.reduceSub, wipeE_nil, wipeE_cons, ↓reduceIte, Bool.false_eq_true, Bool.not_true, Bool.not_false]
  (first | refine sp_seq ?_ | refine sp_set ?_ | refine sp_if ?_ | refine sp_ret ?_ | refine sp_expr ?_ | refine sp_asg ?_ | refine sp_next ?_ | refine sp_brk ?_ | refine sp_cont ?_ | refine sp_raise ?_ | refine sp_put ?_ | refine sp_retN ?_ | refine sp_par ?_ | refine sp_asgL ?_)
  try dsimp only
  refine sp_ost ?_
  conv => (arg 1; simp [okV_iD, okV_dr, okV_dPt, okV_dP, okV_dG, okV_dC, okV_dB, ix_wd, iD_def, okV_wS])
  refine rp_ok ?_
  try dsimp only
  try simp only [setsE_cons, setsE_nil, List.set_cons_zero, List.set_cons_succ, List.map_cons, List.map_nil, List.length_cons, List.length_nil, List.cons_append, List.nil_append, List.append_nil, List.replicate_succ, List.replicate_zero, Nat.zero_add, Nat.reduceAdd, Nat.reduceSub, wipeE_nil, wipeE_cons, ↓reduceIte, Bool.false_eq_true, Bool.not_true, Bool.not_false]
  conv => (arg 1; simp [okV_iD, okV_dr, okV_dPt, okV_dP, okV_dG, okV_dC, okV_dB, ix_wd, iD_def])
  refine rp_ok ?_
  try dsimp only
  try simp only [setsE_cons, setsE_nil, List.set_cons_zero, List.set_cons_succ, List.map_cons, List.map_nil, List.length_cons, List.length_nil, List.cons_append, List.nil_append, List.append_nil, List.replicate_succ, List.replicate_zero, Nat.zero_add, Nat.reduceAdd, Nat.reduceSub, wipeE_nil, wipeE_cons, ↓reduceIte, Bool.false_eq_true, Bool.not_true, Bool.not_false]
  refine ⟨_, _, _, rfl, q2, okF_1, putD_lt (k := 999) (by decide), fun h3 U3 q3 => ?_⟩
  try simp only [setsE_cons, setsE_nil, List.set_cons_zero, List.set_cons_succ, List.map_cons, List.map_nil, List.length_cons, List.length_nil, List.cons_append, List.nil_append, List.append_nil, List.replicate_succ, List.replicate_zero, Nat.zero_add, Nat.reduceAdd, Nat.reduceSub, wipeE_nil, wipeE_cons, ↓reduceIte, Bool.false_eq_true, Bool.not_true, Bool.not_false]
  refine sp_ost ?_
  have e3 : dnewM true [some (.ref h.length), some (dGm gm), some (.str (wS w))] h3 = .ok (.ref h3.length) (h3 ++ [.dit []]) := rfl
  refine rp_eq e3 ?_
  have l3 : h3.length = h.length + 1 := by rw [U3.len, U2.len, l1]
  have A4 : Ap h3 (h3 ++ [IO.dit []]) := .app
  have q4 : (h3 ++ [IO.dit []])[h3.length]? = some (.dit []) := List.getElem?_concat_length
  have l4 : (h3 ++ [IO.dit []]).length = h3.length + 1 := by simp
  generalize h3 ++ [IO.dit []] = h4 at A4 q4 l4
  conv => (arg 1; simp [okV_iD, okV_dr, okV_dPt, okV_dP, okV_dG, okV_dC, okV_dB, ix_wd, iD_def])
  refine rp_ok ?_
  try dsimp only
  try simp only [setsE_cons, setsE_nil, List.set_cons_zero, List.set_cons_succ, List.map_cons, List.map_nil, List.length_cons, List.length_nil, List.cons_append, List.nil_append, List.append_nil, List.replicate_succ, List.replicate_zero, Nat.zero_add, Nat.reduceAdd, Nat.reduceSub, wipeE_nil, wipeE_cons, ↓reduceIte, Bool.false_eq_true, Bool.not_true, Bool.not_false]
  refine ⟨_, _, _, rfl, A4.get q3, okF_1, putD_lt (k := 999) (putD_lt (k := 998) (by decide)), fun h5 U5 q5 => ?_⟩
  have q5 : h5[h.length]? = some (.ins "Best" (qF gm w h3.length)) := q5
  have A5 : Ap h h5 := U5.ap (A4' A1 U2 U3 A4) (Nat.le_refl _)
  refine tq_any ⟨rfl, fin h.length h3.length h5 A5 (Nat.le_refl _) (by omega) ⟨q5, by omega, [], U5.get q4 (by omega), ⟨(fun p hp => by cases hp), List.nodup_nil⟩⟩⟩ fun e _ => ?_
  exfalso
  have : (h5.take h1.length)[h.length]? = h1[h.length]? := by rw [e]
  rw [q1, List.getElem?_take, if_pos (by omega), q5] at this
  simp [qF] at this
/-- a candidate whose list is new -/
def isN (n : Nat) (H : IH) (d : D) : Option Cd → Prop
  | none => d = .non
  | some c => ∃ k, n ≤ k ∧ d = .tup [dr c.1, .ref k] ∧ H[k]? = some (.lst (c.2.map dC))
theorem nil_best (pg : Pg gm) : isBest (CdS gm (.v 0) []) none := by
  rintro c ⟨d, hd, e, _⟩
  have := (hd.ok pg (s := .v 0) (show 0 < gm.length from pg.ok.l1)).lo
  rw [e] at this
  simp at this
theorem ev_best_tree (pg : Pg gm) (lw : Lw w) (l8 : w.length ≤ 8) : rp (F_best_tree [dGm gm, .str (wS w)] h) (fun d H => Ap h H ∧ ∃ v, isN h.length H d v ∧ isBest (CdS gm (.v 0) w) v) noX := by
  have cp := fun H : IH => ev_check_plain2 (h := H) pg
  have cw := fun H : IH => ev_check_word (h := H) lw l8
  have e1 : ∀ H : IH, eqM (.str (wS w)) (.str "") H = .ok (.bl (decide (w = []))) H := fun H => eq_wS (v := []) lw fun c hc => by cases hc
  have ln : ∀ H : IH, lenF [.str (wS w)] H = .ok (iD w.length) H := fun H => len_wS (by omega)
  unfold F_best_tree M_best_tree
  refine rp_def ?_
  simp only [setsE_cons, setsE_nil, List.set_cons_zero, List.set_cons_succ, List.map_cons, List.map_nil, List.length_cons, List.length_nil, List.cons_append, List.nil_append, List.append_nil, List.replicate_succ, List.replicate_zero, Nat.zero_add, Nat.reduceAdd, Nat.reduceSub, wipeE_nil, wipeE_cons, ↓reduceIte, Bool.false_eq_true, Bool.not_true, Bool.not_false]
  (first | refine sp_seq ?_ | refine sp_set ?_ | refine sp_if ?_ | refine sp_ret ?_ | refine sp_expr ?_ | refine sp_asg ?_ | refine sp_next ?_ | refine sp_brk ?_ | refine sp_cont ?_ | refine sp_raise ?_ | refine sp_put ?_ | refine sp_retN ?_ | refine sp_par ?_ | refine sp_asgL ?_)
  try dsimp only
  (first | refine sp_seq ?_ | refine sp_set ?_ | refine sp_if ?_ | refine sp_ret ?_ | refine sp_expr ?_ | refine sp_asg ?_ | refine sp_next ?_ | refine sp_brk ?_ | refine sp_cont ?_ | refine sp_raise ?_ | refine sp_put ?_ | refine sp_retN ?_ | refine sp_par ?_ | refine sp_asgL ?_)
  try dsimp only
  conv => (arg 1; simp [okV_iD, okV_dr, okV_dPt, okV_dP, okV_dG, okV_dC, okV_dB, ix_wd, iD_def, okV_dGm, cp])
  refine rp_ok ?_
  try dsimp only
  try simp only [setsE_cons, setsE_nil, List.set_cons_zero, List.set_cons_succ, List.map_cons, List.map_nil, List.length_cons, List.length_nil, List.cons_append, List.nil_append, List.append_nil, List.replicate_succ, List.replicate_zero, Nat.zero_add, Nat.reduceAdd, Nat.reduceSub, wipeE_nil, wipeE_cons, ↓reduceIte, Bool.false_eq_true, Bool.not_true, Bool.not_false]
  (first | refine sp_seq ?_ | refine sp_set ?_ | refine sp_if ?_ | refine sp_ret ?_ | refine sp_expr ?_ | refine sp_asg ?_ | refine sp_next ?_ | refine sp_brk ?_ | refine sp_cont ?_ | refine sp_raise ?_ | refine sp_put ?_ | refine sp_retN ?_ | refine sp_par ?_ | refine sp_asgL ?_)
  try dsimp only
  (first | refine sp_seq ?_ | refine sp_set ?_ | refine sp_if ?_ | refine sp_ret ?_ | refine sp_expr ?_ | refine sp_asg ?_ | refine sp_next ?_ | refine sp_brk ?_ | refine sp_cont ?_ | refine sp_raise ?_ | refine sp_put ?_ | refine sp_retN ?_ | refine sp_par ?_ | refine sp_asgL ?_)
  try dsimp only
  conv => (arg 1; simp [okV_iD, okV_dr, okV_dPt, okV_dP, okV_dG, okV_dC, okV_dB, ix_wd, iD_def, okV_wS, cw])
  refine rp_ok ?_
  try dsimp only
  try simp only [setsE_cons, setsE_nil, List.set_cons_zero, List.set_cons_succ, List.map_cons, List.map_nil, List.length_cons, List.length_nil, List.cons_append, List.nil_append, List.append_nil, List.replicate_succ, List.replicate_zero, Nat.zero_add, Nat.reduceAdd, Nat.reduceSub, wipeE_nil, wipeE_cons, ↓reduceIte, Bool.false_eq_true, Bool.not_true, Bool.not_false]
  (first | refine sp_seq ?_ | refine sp_set ?_ | refine sp_if ?_ | refine sp_ret ?_ | refine sp_expr ?_ | refine sp_asg ?_ | refine sp_next ?_ | refine sp_brk ?_ | refine sp_cont ?_ | refine sp_raise ?_ | refine sp_put ?_ | refine sp_retN ?_ | refine sp_par ?_ | refine sp_asgL ?_)
  try dsimp only
  (first | refine sp_seq ?_ | refine sp_set ?_ | refine sp_if ?_ | refine sp_ret ?_ | refine sp_expr ?_ | refine sp_asg ?_ | refine sp_next ?_ | refine sp_brk ?_ | refine sp_cont ?_ | refine sp_raise ?_ | refine sp_put ?_ | refine sp_retN ?_ | refine sp_par ?_ | refine sp_asgL ?_)
  try dsimp only
  refine rp_ite ?_
  conv => (arg 1; simp [okV_iD, okV_dr, okV_dPt, okV_dP, okV_dG, okV_dC, okV_dB, ix_wd, iD_def, okV_wS, e1])
  refine rp_ok ?_
  try dsimp only
  try simp only [setsE_cons, setsE_nil, List.set_cons_zero, List.set_cons_succ, List.map_cons, List.map_nil, List.length_cons, List.length_nil, List.cons_append, List.nil_append, List.append_nil, List.replicate_succ, List.replicate_zero, Nat.zero_add, Nat.reduceAdd, Nat.reduceSub, wipeE_nil, wipeE_cons, ↓reduceIte, Bool.false_eq_true, Bool.not_true, Bool.not_false]
  by_cases z : w = []
  · simp only [z, decide_true, if_true]
    conv => (arg 1; simp [okV_iD, okV_dr, okV_dPt, okV_dP, okV_dG, okV_dC, okV_dB, ix_wd, iD_def])
    refine rp_ok ?_
    try dsimp only
    try simp only [setsE_cons, setsE_nil, List.set_cons_zero, List.set_cons_succ, List.map_cons, List.map_nil, List.length_cons, List.length_nil, List.cons_append, List.nil_append, List.append_nil, List.replicate_succ, List.replicate_zero, Nat.zero_add, Nat.reduceAdd, Nat.reduceSub, wipeE_nil, wipeE_cons, ↓reduceIte, Bool.false_eq_true, Bool.not_true, Bool.not_false]
    (first | refine sp_seq ?_ | refine sp_set ?_ | refine sp_if ?_ | refine sp_ret ?_ | refine sp_expr ?_ | refine sp_asg ?_ | refine sp_next ?_ | refine sp_brk ?_ | refine sp_cont ?_ | refine sp_raise ?_ | refine sp_put ?_ | refine sp_retN ?_ | refine sp_par ?_ | refine sp_asgL ?_)
    try dsimp only
    refine rp_ite (rp_btest (rp_bin ?_))
    conv => (arg 1; simp [okV_iD, okV_dr, okV_dPt, okV_dP, okV_dG, okV_dC, okV_dB, ix_wd, iD_def])
    refine rp_ok ?_
    try dsimp only
    try simp only [setsE_cons, setsE_nil, List.set_cons_zero, List.set_cons_succ, List.map_cons, List.map_nil, List.length_cons, List.length_nil, List.cons_append, List.nil_append, List.append_nil, List.replicate_succ, List.replicate_zero, Nat.zero_add, Nat.reduceAdd, Nat.reduceSub, wipeE_nil, wipeE_cons, ↓reduceIte, Bool.false_eq_true, Bool.not_true, Bool.not_false]
    conv => (arg 1; simp [okV_iD, okV_dr, okV_dPt, okV_dP, okV_dG, okV_dC, okV_dB, ix_wd, iD_def])
    refine rp_ok ?_
    try dsimp only
    try simp only [setsE_cons, setsE_nil, List.set_cons_zero, List.set_cons_succ, List.map_cons, List.map_nil, List.length_cons, List.length_nil, List.cons_append, List.nil_append, List.append_nil, List.replicate_succ, List.replicate_zero, Nat.zero_add, Nat.reduceAdd, Nat.reduceSub, wipeE_nil, wipeE_cons, ↓reduceIte, Bool.false_eq_true, Bool.not_true, Bool.not_false]
    refine rp_eq (show isM false .non .non h = .ok (.bl true) h from rfl) ⟨_, rfl, ?_⟩
    simp only [if_true]
    conv => (arg 1; simp [okV_iD, okV_dr, okV_dPt, okV_dP, okV_dG, okV_dC, okV_dB, ix_wd, iD_def])
    refine rp_ok ?_
    try dsimp only
    try simp only [setsE_cons, setsE_nil, List.set_cons_zero, List.set_cons_succ, List.map_cons, List.map_nil, List.length_cons, List.length_nil, List.cons_append, List.nil_append, List.append_nil, List.replicate_succ, List.replicate_zero, Nat.zero_add, Nat.reduceAdd, Nat.reduceSub, wipeE_nil, wipeE_cons, ↓reduceIte, Bool.false_eq_true, Bool.not_true, Bool.not_false]
    exact tq_same ⟨.refl, none, rfl, nil_best pg⟩
  · simp only [z, decide_false, Bool.false_eq_true, if_false]
    have pos : 0 < w.length := List.length_pos_iff.mpr z
    refine rp_om (mk_Best (w := w) (gm := gm) (by simp [okV_dGm, okV_wS]) fun o kd H A ho hkd I => ⟨I.mt.1, ?_⟩)
    conv => (arg 1; simp [okV_iD, okV_dr, okV_dPt, okV_dP, okV_dG, okV_dC, okV_dB, ix_wd, iD_def, okV_wS, ln])
    refine rp_ok ?_
    try dsimp only
    try simp only [setsE_cons, setsE_nil, List.set_cons_zero, List.set_cons_succ, List.map_cons, List.map_nil, List.length_cons, List.length_nil, List.cons_append, List.nil_append, List.append_nil, List.replicate_succ, List.replicate_zero, Nat.zero_add, Nat.reduceAdd, Nat.reduceSub, wipeE_nil, wipeE_cons, ↓reduceIte, Bool.false_eq_true, Bool.not_true, Bool.not_false]
    have g := (ev_bests pg lw l8 8 0 w.length 60 pos (Nat.le_refl _) (by omega)).1 (.v 0) (show 0 < gm.length from pg.ok.l1) (by omega) H o kd I
    refine rp_mono g (fun d H2 q => ?_) fun _ _ q => q.elim
    obtain ⟨U, J, v, c, b⟩ := q
    rw [cutN_all] at b
    have A2 : Ap h H2 := U.ap A hkd
    cases v with
    | none =>
      have c : d = .non := c
      subst c
      (first | refine sp_seq ?_ | refine sp_set ?_ | refine sp_if ?_ | refine sp_ret ?_ | refine sp_expr ?_ | refine sp_asg ?_ | refine sp_next ?_ | refine sp_brk ?_ | refine sp_cont ?_ | refine sp_raise ?_ | refine sp_put ?_ | refine sp_retN ?_ | refine sp_par ?_ | refine sp_asgL ?_)
      try dsimp only
      refine rp_ite (rp_btest (rp_bin ?_))
      conv => (arg 1; simp [okV_iD, okV_dr, okV_dPt, okV_dP, okV_dG, okV_dC, okV_dB, ix_wd, iD_def])
      refine rp_ok ?_
      try dsimp only
      try simp only [setsE_cons, setsE_nil, List.set_cons_zero, List.set_cons_succ, List.map_cons, List.map_nil, List.length_cons, List.length_nil, List.cons_append, List.nil_append, List.append_nil, List.replicate_succ, List.replicate_zero, Nat.zero_add, Nat.reduceAdd, Nat.reduceSub, wipeE_nil, wipeE_cons, ↓reduceIte, Bool.false_eq_true, Bool.not_true, Bool.not_false]
      conv => (arg 1; simp [okV_iD, okV_dr, okV_dPt, okV_dP, okV_dG, okV_dC, okV_dB, ix_wd, iD_def])
      refine rp_ok ?_
      try dsimp only
      try simp only [setsE_cons, setsE_nil, List.set_cons_zero, List.set_cons_succ, List.map_cons, List.map_nil, List.length_cons, List.length_nil, List.cons_append, List.nil_append, List.append_nil, List.replicate_succ, List.replicate_zero, Nat.zero_add, Nat.reduceAdd, Nat.reduceSub, wipeE_nil, wipeE_cons, ↓reduceIte, Bool.false_eq_true, Bool.not_true, Bool.not_false]
      refine rp_eq (show isM false .non .non H2 = .ok (.bl true) H2 from rfl) ⟨_, rfl, ?_⟩
      simp only [if_true]
      conv => (arg 1; simp [okV_iD, okV_dr, okV_dPt, okV_dP, okV_dG, okV_dC, okV_dB, ix_wd, iD_def])
      refine rp_ok ?_
      try dsimp only
      try simp only [setsE_cons, setsE_nil, List.set_cons_zero, List.set_cons_succ, List.map_cons, List.map_nil, List.length_cons, List.length_nil, List.cons_append, List.nil_append, List.append_nil, List.replicate_succ, List.replicate_zero, Nat.zero_add, Nat.reduceAdd, Nat.reduceSub, wipeE_nil, wipeE_cons, ↓reduceIte, Bool.false_eq_true, Bool.not_true, Bool.not_false]
      exact tq_ap A2 rfl ⟨.refl, none, rfl, b⟩
    | some x =>
      obtain ⟨k, rfl, q⟩ := c
      have o6 : ∀ K : IH, okV K (.tup [dr x.1, .ref k]) = .ok (.tup [dr x.1, .ref k]) K := fun _ => rfl
      have i0 : ∀ K : IH, ixM (.tup [dr x.1, .ref k]) (.int 0) K = .ok (dr x.1) K := fun K => ixM_tup2_0
      have i1 : ∀ K : IH, ixM (.tup [dr x.1, .ref k]) (.int 1) K = .ok (.ref k) K := fun K => by simp
      try simp only [setsE_cons, setsE_nil, List.set_cons_zero, List.set_cons_succ, List.map_cons, List.map_nil, List.length_cons, List.length_nil, List.cons_append, List.nil_append, List.append_nil, List.replicate_succ, List.replicate_zero, Nat.zero_add, Nat.reduceAdd, Nat.reduceSub, wipeE_nil, wipeE_cons, ↓reduceIte, Bool.false_eq_true, Bool.not_true, Bool.not_false]
      refine sp_ret ?_
      refine rp_ite (rp_btest (rp_bin ?_))
      conv => (arg 1; simp [okV_iD, okV_dr, okV_dPt, okV_dP, okV_dG, okV_dC, okV_dB, ix_wd, iD_def, o6])
      refine rp_ok ?_
      try dsimp only
      try simp only [setsE_cons, setsE_nil, List.set_cons_zero, List.set_cons_succ, List.map_cons, List.map_nil, List.length_cons, List.length_nil, List.cons_append, List.nil_append, List.append_nil, List.replicate_succ, List.replicate_zero, Nat.zero_add, Nat.reduceAdd, Nat.reduceSub, wipeE_nil, wipeE_cons, ↓reduceIte, Bool.false_eq_true, Bool.not_true, Bool.not_false]
      conv => (arg 1; simp [okV_iD, okV_dr, okV_dPt, okV_dP, okV_dG, okV_dC, okV_dB, ix_wd, iD_def])
      refine rp_ok ?_
      try dsimp only
      try simp only [setsE_cons, setsE_nil, List.set_cons_zero, List.set_cons_succ, List.map_cons, List.map_nil, List.length_cons, List.length_nil, List.cons_append, List.nil_append, List.append_nil, List.replicate_succ, List.replicate_zero, Nat.zero_add, Nat.reduceAdd, Nat.reduceSub, wipeE_nil, wipeE_cons, ↓reduceIte, Bool.false_eq_true, Bool.not_true, Bool.not_false]
      refine rp_eq (show isM false (.tup [dr x.1, .ref k]) .non H2 = .ok (.bl false) H2 from rfl) ⟨_, rfl, ?_⟩
      simp only [Bool.false_eq_true, if_false]
      refine rp_tup (rp_acons (rp_bin ?_))
      conv => (arg 1; simp [okV_iD, okV_dr, okV_dPt, okV_dP, okV_dG, okV_dC, okV_dB, ix_wd, iD_def, o6])
      refine rp_ok ?_
      try dsimp only
      try simp only [setsE_cons, setsE_nil, List.set_cons_zero, List.set_cons_succ, List.map_cons, List.map_nil, List.length_cons, List.length_nil, List.cons_append, List.nil_append, List.append_nil, List.replicate_succ, List.replicate_zero, Nat.zero_add, Nat.reduceAdd, Nat.reduceSub, wipeE_nil, wipeE_cons, ↓reduceIte, Bool.false_eq_true, Bool.not_true, Bool.not_false]
      conv => (arg 1; simp [okV_iD, okV_dr, okV_dPt, okV_dP, okV_dG, okV_dC, okV_dB, ix_wd, iD_def])
      refine rp_ok ?_
      try dsimp only
      try simp only [setsE_cons, setsE_nil, List.set_cons_zero, List.set_cons_succ, List.map_cons, List.map_nil, List.length_cons, List.length_nil, List.cons_append, List.nil_append, List.append_nil, List.replicate_succ, List.replicate_zero, Nat.zero_add, Nat.reduceAdd, Nat.reduceSub, wipeE_nil, wipeE_cons, ↓reduceIte, Bool.false_eq_true, Bool.not_true, Bool.not_false]
      refine rp_eq (i0 H2) (rp_acons (rp_call (rp_acons (rp_bin ?_))))
      conv => (arg 1; simp [okV_iD, okV_dr, okV_dPt, okV_dP, okV_dG, okV_dC, okV_dB, ix_wd, iD_def, o6])
      refine rp_ok ?_
      try dsimp only
      try simp only [setsE_cons, setsE_nil, List.set_cons_zero, List.set_cons_succ, List.map_cons, List.map_nil, List.length_cons, List.length_nil, List.cons_append, List.nil_append, List.append_nil, List.replicate_succ, List.replicate_zero, Nat.zero_add, Nat.reduceAdd, Nat.reduceSub, wipeE_nil, wipeE_cons, ↓reduceIte, Bool.false_eq_true, Bool.not_true, Bool.not_false]
      conv => (arg 1; simp [okV_iD, okV_dr, okV_dPt, okV_dP, okV_dG, okV_dC, okV_dB, ix_wd, iD_def])
      refine rp_ok ?_
      try dsimp only
      try simp only [setsE_cons, setsE_nil, List.set_cons_zero, List.set_cons_succ, List.map_cons, List.map_nil, List.length_cons, List.length_nil, List.cons_append, List.nil_append, List.append_nil, List.replicate_succ, List.replicate_zero, Nat.zero_add, Nat.reduceAdd, Nat.reduceSub, wipeE_nil, wipeE_cons, ↓reduceIte, Bool.false_eq_true, Bool.not_true, Bool.not_false]
      refine rp_eq (i1 H2) (rp_anil (rp_listF q ?_))
      intro k2 H3 A3 q3 n3 _
      refine rp_anil ⟨by simp, ?_⟩
      have l2 := A2.len
      refine tq_any ⟨A2.trans A3, some x, ⟨k2, by omega, rfl, q3⟩, b⟩ fun e l => ?_
      exfalso
      have l : ((dr x.1).lt h.length && ((D.ref k2).lt h.length && true)) = true := l
      simp [D.lt] at l
      omega
/-- the law's candidates -/
def LwC (trs : List Dv) (u : List Nat) (i : Nat) (c : Cd) : Prop := ∃ j d, j < i ∧ trs[j]? = some d ∧ d.2.1 = u ∧ c = (d.1, d.2.2)
theorem LwC.succ {trs : List Dv} {i : Nat} {d : Dv} (e : trs[i]? = some d) {c : Cd} : LwC trs u i c ∨ (d.2.1 = u ∧ c = (d.1, d.2.2)) ↔ LwC trs u (i + 1) c := by
  constructor
  · rintro (⟨j, d', a, b, z⟩ | z)
    · exact ⟨j, d', by omega, b, z⟩
    · exact ⟨i, d, by omega, e, z⟩
  · rintro ⟨j, d', a, b, z⟩
    by_cases q : j = i
    · subst q
      rw [e] at b
      cases b
      exact .inr z
    · exact .inl ⟨j, d', by omega, b, z⟩
theorem lb_step {C : Ct} {d2 : D} {v : Option Cd} {ch : Rat} {ol : List (Nat × Nat)} {k : Nat} {x0 x1 x4 : Option D} (c2 : isC H d2 v) (q5 : H[k]? = some (.lst (ol.map dC))) (r1 : ∀ a, v = some a → RB 400 a.1) (rc : RB 400 ch) (fin : ∀ d, isC H d (some (betterC v (ch, ol))) → C.nx [x0, x1, some d, some (dr ch), x4, some (.ref k)] H) : sp ((ifM (torM (btestM (binM (isM false) (varM 2) (constM .non))) (btestM (binM gtM (binM mulM (binM ixM (varM 3) (constM (.int 0))) (binM ixM (binM ixM (varM 2) (constM (.int 0))) (constM (.int 1)))) (binM mulM (binM ixM (binM ixM (varM 2) (constM (.int 0))) (constM (.int 0))) (binM ixM (varM 3) (constM (.int 1))))))) (setM 2 (tupM (aconsM (varM 3) (aconsM (varM 5) anilM)))) (ifM (tandM (btestM (binM eqM (varM 3) (binM ixM (varM 2) (constM (.int 0))))) (btestM (binM ltDM (varM 5) (binM ixM (varM 2) (constM (.int 1)))))) (setM 2 (tupM (aconsM (varM 3) (aconsM (varM 5) anilM)))) nextM)) [x0, x1, some d2, some (dr ch), x4, some (.ref k)] H) C := by
  have c3 : isC H (.tup [dr ch, .ref k]) (some (ch, ol)) := ⟨k, rfl, q5⟩
  cases v with
  | none =>
    have c2 : d2 = .non := c2
    subst c2
    refine sp_if (rp_tor (rp_btest (rp_bin ?_)))
    conv => (arg 1; simp [okV_iD, okV_dr, okV_dPt, okV_dP, okV_dG, okV_dC, okV_dB, ix_wd, iD_def])
    refine rp_ok ?_
    try dsimp only
    try simp only [setsE_cons, setsE_nil, List.set_cons_zero, List.set_cons_succ, List.map_cons, List.map_nil, List.length_cons, List.length_nil, List.cons_append, List.nil_append, List.append_nil, List.replicate_succ, List.replicate_zero, Nat.zero_add, Nat.reduceAdd, Nat.reduceSub, wipeE_nil, wipeE_cons, ↓reduceIte, Bool.false_eq_true, Bool.not_true, Bool.not_false]
    conv => (arg 1; simp [okV_iD, okV_dr, okV_dPt, okV_dP, okV_dG, okV_dC, okV_dB, ix_wd, iD_def])
    refine rp_ok ?_
    try dsimp only
    try simp only [setsE_cons, setsE_nil, List.set_cons_zero, List.set_cons_succ, List.map_cons, List.map_nil, List.length_cons, List.length_nil, List.cons_append, List.nil_append, List.append_nil, List.replicate_succ, List.replicate_zero, Nat.zero_add, Nat.reduceAdd, Nat.reduceSub, wipeE_nil, wipeE_cons, ↓reduceIte, Bool.false_eq_true, Bool.not_true, Bool.not_false]
    refine rp_eq (show isM false .non .non H = .ok (.bl true) H from rfl) ⟨_, rfl, ?_⟩
    simp only [if_true]
    (first | refine sp_seq ?_ | refine sp_set ?_ | refine sp_if ?_ | refine sp_ret ?_ | refine sp_expr ?_ | refine sp_asg ?_ | refine sp_next ?_ | refine sp_brk ?_ | refine sp_cont ?_ | refine sp_raise ?_ | refine sp_put ?_ | refine sp_retN ?_ | refine sp_par ?_ | refine sp_asgL ?_)
    try dsimp only
    conv => (arg 1; simp [okV_iD, okV_dr, okV_dPt, okV_dP, okV_dG, okV_dC, okV_dB, ix_wd, iD_def, okV_dr, tupM_eq])
    refine rp_ok ?_
    try dsimp only
    try simp only [setsE_cons, setsE_nil, List.set_cons_zero, List.set_cons_succ, List.map_cons, List.map_nil, List.length_cons, List.length_nil, List.cons_append, List.nil_append, List.append_nil, List.replicate_succ, List.replicate_zero, Nat.zero_add, Nat.reduceAdd, Nat.reduceSub, wipeE_nil, wipeE_cons, ↓reduceIte, Bool.false_eq_true, Bool.not_true, Bool.not_false]
    exact fin _ c3
  | some a =>
    obtain ⟨k1, rfl, q1⟩ := c2
    have o1 : ∀ K : IH, okV K (.tup [dr a.1, .ref k1]) = .ok (.tup [dr a.1, .ref k1]) K := fun _ => rfl
    have i10 : ∀ K : IH, ixM (.tup [dr a.1, .ref k1]) (.int 0) K = .ok (dr a.1) K := fun K => ixM_tup2_0
    have i11 : ∀ K : IH, ixM (.tup [dr a.1, .ref k1]) (.int 1) K = .ok (.ref k1) K := fun K => by simp
    have ra := r1 a rfl
    have m1 : ∀ K : IH, mulM (.int ch.num) (.int (a.1.den : Int)) K = .ok (.int (ch.num * (a.1.den : Int))) K := fun K => mulM_int (small_of rc.n ra.d (by decide) (by decide) (by decide))
    have m2 : ∀ K : IH, mulM (.int a.1.num) (.int (ch.den : Int)) K = .ok (.int (a.1.num * (ch.den : Int))) K := fun K => mulM_int (small_of ra.n rc.d (by decide) (by decide) (by decide))
    have gt : gtM (.int (ch.num * (a.1.den : Int))) (.int (a.1.num * (ch.den : Int))) H = .ok (.bl (decide (a.1 < ch))) H := by
      rw [gtM_int]
      congr 2
      rw [Bool.eq_iff_iff, decide_eq_true_eq, decide_eq_true_eq, Rat.lt_iff]
    have lt : ltDM (.ref k) (.ref k1) H = .ok (.bl (olt ol a.2)) H := by
      unfold ltDM
      rw [ord_out q5 q1]
    have fb : bt (ch, ol) a → C.nx [x0, x1, some (.tup [dr ch, .ref k]), some (dr ch), x4, some (.ref k)] H := fun z => fin _ (by rw [betterC_some, if_pos z]; exact c3)
    have fa : ¬ bt (ch, ol) a → C.nx [x0, x1, some (.tup [dr a.1, .ref k1]), some (dr ch), x4, some (.ref k)] H := fun z => fin _ (by rw [betterC_some, if_neg z]; exact ⟨k1, rfl, q1⟩)
    refine sp_if (rp_tor (rp_btest (rp_bin ?_)))
    conv => (arg 1; simp [okV_iD, okV_dr, okV_dPt, okV_dP, okV_dG, okV_dC, okV_dB, ix_wd, iD_def, o1])
    refine rp_ok ?_
    try dsimp only
    try simp only [setsE_cons, setsE_nil, List.set_cons_zero, List.set_cons_succ, List.map_cons, List.map_nil, List.length_cons, List.length_nil, List.cons_append, List.nil_append, List.append_nil, List.replicate_succ, List.replicate_zero, Nat.zero_add, Nat.reduceAdd, Nat.reduceSub, wipeE_nil, wipeE_cons, ↓reduceIte, Bool.false_eq_true, Bool.not_true, Bool.not_false]
    conv => (arg 1; simp [okV_iD, okV_dr, okV_dPt, okV_dP, okV_dG, okV_dC, okV_dB, ix_wd, iD_def])
    refine rp_ok ?_
    try dsimp only
    try simp only [setsE_cons, setsE_nil, List.set_cons_zero, List.set_cons_succ, List.map_cons, List.map_nil, List.length_cons, List.length_nil, List.cons_append, List.nil_append, List.append_nil, List.replicate_succ, List.replicate_zero, Nat.zero_add, Nat.reduceAdd, Nat.reduceSub, wipeE_nil, wipeE_cons, ↓reduceIte, Bool.false_eq_true, Bool.not_true, Bool.not_false]
    refine rp_eq (show isM false (.tup [dr a.1, .ref k1]) .non H = .ok (.bl false) H from rfl) ⟨_, rfl, ?_⟩
    simp only [Bool.false_eq_true, if_false]
    refine rp_btest (rp_bin (rp_bin (rp_bin ?_)))
    conv => (arg 1; simp [okV_iD, okV_dr, okV_dPt, okV_dP, okV_dG, okV_dC, okV_dB, ix_wd, iD_def, okV_dr])
    refine rp_ok ?_
    try dsimp only
    try simp only [setsE_cons, setsE_nil, List.set_cons_zero, List.set_cons_succ, List.map_cons, List.map_nil, List.length_cons, List.length_nil, List.cons_append, List.nil_append, List.append_nil, List.replicate_succ, List.replicate_zero, Nat.zero_add, Nat.reduceAdd, Nat.reduceSub, wipeE_nil, wipeE_cons, ↓reduceIte, Bool.false_eq_true, Bool.not_true, Bool.not_false]
    conv => (arg 1; simp [okV_iD, okV_dr, okV_dPt, okV_dP, okV_dG, okV_dC, okV_dB, ix_wd, iD_def])
    refine rp_ok ?_
    try dsimp only
    try simp only [setsE_cons, setsE_nil, List.set_cons_zero, List.set_cons_succ, List.map_cons, List.map_nil, List.length_cons, List.length_nil, List.cons_append, List.nil_append, List.append_nil, List.replicate_succ, List.replicate_zero, Nat.zero_add, Nat.reduceAdd, Nat.reduceSub, wipeE_nil, wipeE_cons, ↓reduceIte, Bool.false_eq_true, Bool.not_true, Bool.not_false]
    conv => (arg 1; simp [okV_iD, okV_dr, okV_dPt, okV_dP, okV_dG, okV_dC, okV_dB, ix_wd, iD_def, ixM_dr0])
    refine rp_ok ?_
    try dsimp only
    try simp only [setsE_cons, setsE_nil, List.set_cons_zero, List.set_cons_succ, List.map_cons, List.map_nil, List.length_cons, List.length_nil, List.cons_append, List.nil_append, List.append_nil, List.replicate_succ, List.replicate_zero, Nat.zero_add, Nat.reduceAdd, Nat.reduceSub, wipeE_nil, wipeE_cons, ↓reduceIte, Bool.false_eq_true, Bool.not_true, Bool.not_false]
    refine rp_bin (rp_bin ?_)
    conv => (arg 1; simp [okV_iD, okV_dr, okV_dPt, okV_dP, okV_dG, okV_dC, okV_dB, ix_wd, iD_def, o1])
    refine rp_ok ?_
    try dsimp only
    try simp only [setsE_cons, setsE_nil, List.set_cons_zero, List.set_cons_succ, List.map_cons, List.map_nil, List.length_cons, List.length_nil, List.cons_append, List.nil_append, List.append_nil, List.replicate_succ, List.replicate_zero, Nat.zero_add, Nat.reduceAdd, Nat.reduceSub, wipeE_nil, wipeE_cons, ↓reduceIte, Bool.false_eq_true, Bool.not_true, Bool.not_false]
    conv => (arg 1; simp [okV_iD, okV_dr, okV_dPt, okV_dP, okV_dG, okV_dC, okV_dB, ix_wd, iD_def])
    refine rp_ok ?_
    try dsimp only
    try simp only [setsE_cons, setsE_nil, List.set_cons_zero, List.set_cons_succ, List.map_cons, List.map_nil, List.length_cons, List.length_nil, List.cons_append, List.nil_append, List.append_nil, List.replicate_succ, List.replicate_zero, Nat.zero_add, Nat.reduceAdd, Nat.reduceSub, wipeE_nil, wipeE_cons, ↓reduceIte, Bool.false_eq_true, Bool.not_true, Bool.not_false]
    refine rp_eq (i10 H) ?_
    conv => (arg 1; simp [okV_iD, okV_dr, okV_dPt, okV_dP, okV_dG, okV_dC, okV_dB, ix_wd, iD_def])
    refine rp_ok ?_
    try dsimp only
    try simp only [setsE_cons, setsE_nil, List.set_cons_zero, List.set_cons_succ, List.map_cons, List.map_nil, List.length_cons, List.length_nil, List.cons_append, List.nil_append, List.append_nil, List.replicate_succ, List.replicate_zero, Nat.zero_add, Nat.reduceAdd, Nat.reduceSub, wipeE_nil, wipeE_cons, ↓reduceIte, Bool.false_eq_true, Bool.not_true, Bool.not_false]
    refine rp_eq ixM_dr1 (rp_eq (m1 H) (rp_bin (rp_bin (rp_bin ?_))))
    conv => (arg 1; simp [okV_iD, okV_dr, okV_dPt, okV_dP, okV_dG, okV_dC, okV_dB, ix_wd, iD_def, o1])
    refine rp_ok ?_
    try dsimp only
    try simp only [setsE_cons, setsE_nil, List.set_cons_zero, List.set_cons_succ, List.map_cons, List.map_nil, List.length_cons, List.length_nil, List.cons_append, List.nil_append, List.append_nil, List.replicate_succ, List.replicate_zero, Nat.zero_add, Nat.reduceAdd, Nat.reduceSub, wipeE_nil, wipeE_cons, ↓reduceIte, Bool.false_eq_true, Bool.not_true, Bool.not_false]
    conv => (arg 1; simp [okV_iD, okV_dr, okV_dPt, okV_dP, okV_dG, okV_dC, okV_dB, ix_wd, iD_def])
    refine rp_ok ?_
    try dsimp only
    try simp only [setsE_cons, setsE_nil, List.set_cons_zero, List.set_cons_succ, List.map_cons, List.map_nil, List.length_cons, List.length_nil, List.cons_append, List.nil_append, List.append_nil, List.replicate_succ, List.replicate_zero, Nat.zero_add, Nat.reduceAdd, Nat.reduceSub, wipeE_nil, wipeE_cons, ↓reduceIte, Bool.false_eq_true, Bool.not_true, Bool.not_false]
    refine rp_eq (i10 H) ?_
    conv => (arg 1; simp [okV_iD, okV_dr, okV_dPt, okV_dP, okV_dG, okV_dC, okV_dB, ix_wd, iD_def])
    refine rp_ok ?_
    try dsimp only
    try simp only [setsE_cons, setsE_nil, List.set_cons_zero, List.set_cons_succ, List.map_cons, List.map_nil, List.length_cons, List.length_nil, List.cons_append, List.nil_append, List.append_nil, List.replicate_succ, List.replicate_zero, Nat.zero_add, Nat.reduceAdd, Nat.reduceSub, wipeE_nil, wipeE_cons, ↓reduceIte, Bool.false_eq_true, Bool.not_true, Bool.not_false]
    refine rp_eq ixM_dr0 (rp_bin ?_)
    conv => (arg 1; simp [okV_iD, okV_dr, okV_dPt, okV_dP, okV_dG, okV_dC, okV_dB, ix_wd, iD_def, okV_dr])
    refine rp_ok ?_
    try dsimp only
    try simp only [setsE_cons, setsE_nil, List.set_cons_zero, List.set_cons_succ, List.map_cons, List.map_nil, List.length_cons, List.length_nil, List.cons_append, List.nil_append, List.append_nil, List.replicate_succ, List.replicate_zero, Nat.zero_add, Nat.reduceAdd, Nat.reduceSub, wipeE_nil, wipeE_cons, ↓reduceIte, Bool.false_eq_true, Bool.not_true, Bool.not_false]
    conv => (arg 1; simp [okV_iD, okV_dr, okV_dPt, okV_dP, okV_dG, okV_dC, okV_dB, ix_wd, iD_def])
    refine rp_ok ?_
    try dsimp only
    try simp only [setsE_cons, setsE_nil, List.set_cons_zero, List.set_cons_succ, List.map_cons, List.map_nil, List.length_cons, List.length_nil, List.cons_append, List.nil_append, List.append_nil, List.replicate_succ, List.replicate_zero, Nat.zero_add, Nat.reduceAdd, Nat.reduceSub, wipeE_nil, wipeE_cons, ↓reduceIte, Bool.false_eq_true, Bool.not_true, Bool.not_false]
    refine rp_eq ixM_dr1 (rp_eq (m2 H) (rp_eq gt ⟨_, rfl, ?_⟩))
    by_cases l1 : a.1 < ch
    · simp only [l1, decide_true, if_true]
      (first | refine sp_seq ?_ | refine sp_set ?_ | refine sp_if ?_ | refine sp_ret ?_ | refine sp_expr ?_ | refine sp_asg ?_ | refine sp_next ?_ | refine sp_brk ?_ | refine sp_cont ?_ | refine sp_raise ?_ | refine sp_put ?_ | refine sp_retN ?_ | refine sp_par ?_ | refine sp_asgL ?_)
      try dsimp only
      conv => (arg 1; simp [okV_iD, okV_dr, okV_dPt, okV_dP, okV_dG, okV_dC, okV_dB, ix_wd, iD_def, okV_dr, tupM_eq])
      refine rp_ok ?_
      try dsimp only
      try simp only [setsE_cons, setsE_nil, List.set_cons_zero, List.set_cons_succ, List.map_cons, List.map_nil, List.length_cons, List.length_nil, List.cons_append, List.nil_append, List.append_nil, List.replicate_succ, List.replicate_zero, Nat.zero_add, Nat.reduceAdd, Nat.reduceSub, wipeE_nil, wipeE_cons, ↓reduceIte, Bool.false_eq_true, Bool.not_true, Bool.not_false]
      exact fb (.inl l1)
    simp only [l1, decide_false, Bool.false_eq_true, if_false]
    refine sp_if (rp_tand (rp_btest (rp_bin ?_)))
    conv => (arg 1; simp [okV_iD, okV_dr, okV_dPt, okV_dP, okV_dG, okV_dC, okV_dB, ix_wd, iD_def, okV_dr])
    refine rp_ok ?_
    try dsimp only
    try simp only [setsE_cons, setsE_nil, List.set_cons_zero, List.set_cons_succ, List.map_cons, List.map_nil, List.length_cons, List.length_nil, List.cons_append, List.nil_append, List.append_nil, List.replicate_succ, List.replicate_zero, Nat.zero_add, Nat.reduceAdd, Nat.reduceSub, wipeE_nil, wipeE_cons, ↓reduceIte, Bool.false_eq_true, Bool.not_true, Bool.not_false]
    refine rp_bin ?_
    conv => (arg 1; simp [okV_iD, okV_dr, okV_dPt, okV_dP, okV_dG, okV_dC, okV_dB, ix_wd, iD_def, o1])
    refine rp_ok ?_
    try dsimp only
    try simp only [setsE_cons, setsE_nil, List.set_cons_zero, List.set_cons_succ, List.map_cons, List.map_nil, List.length_cons, List.length_nil, List.cons_append, List.nil_append, List.append_nil, List.replicate_succ, List.replicate_zero, Nat.zero_add, Nat.reduceAdd, Nat.reduceSub, wipeE_nil, wipeE_cons, ↓reduceIte, Bool.false_eq_true, Bool.not_true, Bool.not_false]
    conv => (arg 1; simp [okV_iD, okV_dr, okV_dPt, okV_dP, okV_dG, okV_dC, okV_dB, ix_wd, iD_def])
    refine rp_ok ?_
    try dsimp only
    try simp only [setsE_cons, setsE_nil, List.set_cons_zero, List.set_cons_succ, List.map_cons, List.map_nil, List.length_cons, List.length_nil, List.cons_append, List.nil_append, List.append_nil, List.replicate_succ, List.replicate_zero, Nat.zero_add, Nat.reduceAdd, Nat.reduceSub, wipeE_nil, wipeE_cons, ↓reduceIte, Bool.false_eq_true, Bool.not_true, Bool.not_false]
    refine rp_eq (i10 H) (rp_eq eqM_dr ⟨_, rfl, ?_⟩)
    by_cases l2 : ch = a.1
    · rw [decide_eq_true l2]
      simp only [if_true]
      refine rp_btest (rp_bin ?_)
      conv => (arg 1; simp [okV_iD, okV_dr, okV_dPt, okV_dP, okV_dG, okV_dC, okV_dB, ix_wd, iD_def])
      refine rp_ok ?_
      try dsimp only
      try simp only [setsE_cons, setsE_nil, List.set_cons_zero, List.set_cons_succ, List.map_cons, List.map_nil, List.length_cons, List.length_nil, List.cons_append, List.nil_append, List.append_nil, List.replicate_succ, List.replicate_zero, Nat.zero_add, Nat.reduceAdd, Nat.reduceSub, wipeE_nil, wipeE_cons, ↓reduceIte, Bool.false_eq_true, Bool.not_true, Bool.not_false]
      refine rp_bin ?_
      conv => (arg 1; simp [okV_iD, okV_dr, okV_dPt, okV_dP, okV_dG, okV_dC, okV_dB, ix_wd, iD_def, o1])
      refine rp_ok ?_
      try dsimp only
      try simp only [setsE_cons, setsE_nil, List.set_cons_zero, List.set_cons_succ, List.map_cons, List.map_nil, List.length_cons, List.length_nil, List.cons_append, List.nil_append, List.append_nil, List.replicate_succ, List.replicate_zero, Nat.zero_add, Nat.reduceAdd, Nat.reduceSub, wipeE_nil, wipeE_cons, ↓reduceIte, Bool.false_eq_true, Bool.not_true, Bool.not_false]
      conv => (arg 1; simp [okV_iD, okV_dr, okV_dPt, okV_dP, okV_dG, okV_dC, okV_dB, ix_wd, iD_def])
      refine rp_ok ?_
      try dsimp only
      try simp only [setsE_cons, setsE_nil, List.set_cons_zero, List.set_cons_succ, List.map_cons, List.map_nil, List.length_cons, List.length_nil, List.cons_append, List.nil_append, List.append_nil, List.replicate_succ, List.replicate_zero, Nat.zero_add, Nat.reduceAdd, Nat.reduceSub, wipeE_nil, wipeE_cons, ↓reduceIte, Bool.false_eq_true, Bool.not_true, Bool.not_false]
      refine rp_eq (i11 H) (rp_eq lt ⟨_, rfl, ?_⟩)
      by_cases l3 : olt ol a.2 = true
      · rw [l3]
        simp only [if_true]
        (first | refine sp_seq ?_ | refine sp_set ?_ | refine sp_if ?_ | refine sp_ret ?_ | refine sp_expr ?_ | refine sp_asg ?_ | refine sp_next ?_ | refine sp_brk ?_ | refine sp_cont ?_ | refine sp_raise ?_ | refine sp_put ?_ | refine sp_retN ?_ | refine sp_par ?_ | refine sp_asgL ?_)
        try dsimp only
        conv => (arg 1; simp [okV_iD, okV_dr, okV_dPt, okV_dP, okV_dG, okV_dC, okV_dB, ix_wd, iD_def, okV_dr, tupM_eq])
        refine rp_ok ?_
        try dsimp only
        try simp only [setsE_cons, setsE_nil, List.set_cons_zero, List.set_cons_succ, List.map_cons, List.map_nil, List.length_cons, List.length_nil, List.cons_append, List.nil_append, List.append_nil, List.replicate_succ, List.replicate_zero, Nat.zero_add, Nat.reduceAdd, Nat.reduceSub, wipeE_nil, wipeE_cons, ↓reduceIte, Bool.false_eq_true, Bool.not_true, Bool.not_false]
        exact fb (.inr ⟨l2, l3⟩)
      · have l3 : olt ol a.2 = false := by simpa using l3
        rw [l3]
        simp only [Bool.false_eq_true, if_false]
        (first | refine sp_seq ?_ | refine sp_set ?_ | refine sp_if ?_ | refine sp_ret ?_ | refine sp_expr ?_ | refine sp_asg ?_ | refine sp_next ?_ | refine sp_brk ?_ | refine sp_cont ?_ | refine sp_raise ?_ | refine sp_put ?_ | refine sp_retN ?_ | refine sp_par ?_ | refine sp_asgL ?_)
        try dsimp only
        refine fa fun z => ?_
        rcases z with z | ⟨_, z⟩
        · exact l1 z
        · have z : olt ol a.2 = true := z
          rw [l3] at z
          cases z
    · simp only [l2, decide_false, Bool.false_eq_true, if_false]
      (first | refine sp_seq ?_ | refine sp_set ?_ | refine sp_if ?_ | refine sp_ret ?_ | refine sp_expr ?_ | refine sp_asg ?_ | refine sp_next ?_ | refine sp_brk ?_ | refine sp_cont ?_ | refine sp_raise ?_ | refine sp_put ?_ | refine sp_retN ?_ | refine sp_par ?_ | refine sp_asgL ?_)
      try dsimp only
      refine fa fun z => ?_
      rcases z with z | ⟨z, _⟩
      · exact l1 z
      · exact l2 z
theorem ev_law_best {kt : Nat} {ps : List (Dv × Nat)} {trs : List Dv} {M : Nat} (T : isT h kt trs ps) (tr : TrOk trs M) (lw : Lw u) : rp (F__law_best [.ref kt, .str (wS u)] h) (fun d H => H = h ∧ ∃ v, isC h d v ∧ isBest (LwC trs u trs.length) v) noX := by
  unfold F__law_best M__law_best
  refine rp_def ?_
  simp only [setsE_cons, setsE_nil, List.set_cons_zero, List.set_cons_succ, List.map_cons, List.map_nil, List.length_cons, List.length_nil, List.cons_append, List.nil_append, List.append_nil, List.replicate_succ, List.replicate_zero, Nat.zero_add, Nat.reduceAdd, Nat.reduceSub, wipeE_nil, wipeE_cons, ↓reduceIte, Bool.false_eq_true, Bool.not_true, Bool.not_false]
  (first | refine sp_seq ?_ | refine sp_set ?_ | refine sp_if ?_ | refine sp_ret ?_ | refine sp_expr ?_ | refine sp_asg ?_ | refine sp_next ?_ | refine sp_brk ?_ | refine sp_cont ?_ | refine sp_raise ?_ | refine sp_put ?_ | refine sp_retN ?_ | refine sp_par ?_ | refine sp_asgL ?_)
  try dsimp only
  (first | refine sp_seq ?_ | refine sp_set ?_ | refine sp_if ?_ | refine sp_ret ?_ | refine sp_expr ?_ | refine sp_asg ?_ | refine sp_next ?_ | refine sp_brk ?_ | refine sp_cont ?_ | refine sp_raise ?_ | refine sp_put ?_ | refine sp_retN ?_ | refine sp_par ?_ | refine sp_asgL ?_)
  try dsimp only
  conv => (arg 1; simp [okV_iD, okV_dr, okV_dPt, okV_dP, okV_dG, okV_dC, okV_dB, ix_wd, iD_def])
  refine rp_ok ?_
  try dsimp only
  try simp only [setsE_cons, setsE_nil, List.set_cons_zero, List.set_cons_succ, List.map_cons, List.map_nil, List.length_cons, List.length_nil, List.cons_append, List.nil_append, List.append_nil, List.replicate_succ, List.replicate_zero, Nat.zero_add, Nat.reduceAdd, Nat.reduceSub, wipeE_nil, wipeE_cons, ↓reduceIte, Bool.false_eq_true, Bool.not_true, Bool.not_false]
  (first | refine sp_seq ?_ | refine sp_set ?_ | refine sp_if ?_ | refine sp_ret ?_ | refine sp_expr ?_ | refine sp_asg ?_ | refine sp_next ?_ | refine sp_brk ?_ | refine sp_cont ?_ | refine sp_raise ?_ | refine sp_put ?_ | refine sp_retN ?_ | refine sp_par ?_ | refine sp_asgL ?_)
  try dsimp only
  refine sp_forV (h1 := h) (v := viewL kt) [2, 3, 4, 5] ps dT (fun i vs H => ∃ (d2 : D) (v : Option Cd) (y3 y4 y5 : Option D), vs = [some d2, y3, y4, y5] ∧ H = h ∧ isC h d2 v ∧ isBest (LwC trs u i) v) (vs := [some .non, none, none, none]) (by simp [srcOf_ref T.lst]) (by rw [T.len]; have := tr.le; omega) rfl ⟨.non, none, _, _, _, rfl, rfl, rfl, fun c z => by obtain ⟨j, _, z, _⟩ := z; omega⟩ ?_ ?_ ?_
  · rintro i vs H ⟨_, _, _, _, _, rfl, rfl, _⟩
    exact viewL_eq T.lst
  · rintro i p vs H hi ⟨d2, v, y3, y4, y5, rfl, rfl, c2, b2⟩
    refine ⟨_, rfl, ?_⟩
    have pm := List.mem_of_getElem? hi
    obtain ⟨⟨ch, wd, ol⟩, k⟩ := p
    have am : trs[i]? = some (ch, wd, ol) := by rw [← T.fst, List.getElem?_map, hi]; rfl
    have amm := List.mem_of_getElem? am
    have q5 : H[k]? = some (.lst (ol.map dC)) := T.out _ pm
    have rc : RB 400 ch := (tr.sz _ amm).rb (by decide)
    have eq : eqM (.str (wS wd)) (.str (wS u)) H = .ok (.bl (decide (wd = u))) H := eq_wS (tr.lw _ amm) lw
    have c3 : isC H (.tup [dr ch, .ref k]) (some (ch, ol)) := ⟨k, rfl, q5⟩
    have one : wd = u → isBest (fun c => wd = u ∧ c = (ch, ol)) (some (ch, ol)) := fun e => ⟨⟨e, rfl⟩, fun c hc z => by rw [hc.2] at z; exact bt_asymm z z⟩
    try simp only [setsE_cons, setsE_nil, List.set_cons_zero, List.set_cons_succ, List.map_cons, List.map_nil, List.length_cons, List.length_nil, List.cons_append, List.nil_append, List.append_nil, List.replicate_succ, List.replicate_zero, Nat.zero_add, Nat.reduceAdd, Nat.reduceSub, wipeE_nil, wipeE_cons, ↓reduceIte, Bool.false_eq_true, Bool.not_true, Bool.not_false]
    refine sp_if ?_
    conv => (arg 1; simp [okV_iD, okV_dr, okV_dPt, okV_dP, okV_dG, okV_dC, okV_dB, ix_wd, iD_def, okV_wS, eq])
    refine rp_ok ?_
    try dsimp only
    try simp only [setsE_cons, setsE_nil, List.set_cons_zero, List.set_cons_succ, List.map_cons, List.map_nil, List.length_cons, List.length_nil, List.cons_append, List.nil_append, List.append_nil, List.replicate_succ, List.replicate_zero, Nat.zero_add, Nat.reduceAdd, Nat.reduceSub, wipeE_nil, wipeE_cons, ↓reduceIte, Bool.false_eq_true, Bool.not_true, Bool.not_false]
    by_cases z : wd = u
    · simp only [z, decide_true, if_true]
      refine lb_step c2 q5 (fun a ha => ?_) rc fun d c => turn_next (vs := [_, _, _, _]) rfl ⟨d, _, _, _, _, rfl, rfl, c, (isBest.or b2 (one z)).congr fun x => LwC.succ am⟩
      subst ha
      obtain ⟨j, d, _, hj, _, e⟩ := b2.1
      have : a.1 = d.1 := congrArg (fun c : Cd => c.1) e
      rw [this]
      exact (tr.sz _ (List.mem_of_getElem? hj)).rb (by decide)
    · simp only [z, decide_false, Bool.false_eq_true, if_false]
      (first | refine sp_seq ?_ | refine sp_set ?_ | refine sp_if ?_ | refine sp_ret ?_ | refine sp_expr ?_ | refine sp_asg ?_ | refine sp_next ?_ | refine sp_brk ?_ | refine sp_cont ?_ | refine sp_raise ?_ | refine sp_put ?_ | refine sp_retN ?_ | refine sp_par ?_ | refine sp_asgL ?_)
      try dsimp only
      exact turn_next (vs := [_, _, _, _]) rfl ⟨d2, v, _, _, _, rfl, rfl, c2, (isBest.or0 (T := fun c => wd = u ∧ c = (ch, ol)) b2 fun c hc => z hc.1).congr fun x => LwC.succ am⟩
  · rintro vs H ⟨d2, v, y3, y4, y5, rfl, rfl, c2, b2⟩
    rw [T.len] at b2
    have od2 : okV H d2 = .ok d2 H := by
      cases v with
      | none => have z : d2 = .non := c2; rw [z]; rfl
      | some x => obtain ⟨_, rfl, _⟩ := c2; rfl
    try simp only [setsE_cons, setsE_nil, List.set_cons_zero, List.set_cons_succ, List.map_cons, List.map_nil, List.length_cons, List.length_nil, List.cons_append, List.nil_append, List.append_nil, List.replicate_succ, List.replicate_zero, Nat.zero_add, Nat.reduceAdd, Nat.reduceSub, wipeE_nil, wipeE_cons, ↓reduceIte, Bool.false_eq_true, Bool.not_true, Bool.not_false]
    (first | refine sp_seq ?_ | refine sp_set ?_ | refine sp_if ?_ | refine sp_ret ?_ | refine sp_expr ?_ | refine sp_asg ?_ | refine sp_next ?_ | refine sp_brk ?_ | refine sp_cont ?_ | refine sp_raise ?_ | refine sp_put ?_ | refine sp_retN ?_ | refine sp_par ?_ | refine sp_asgL ?_)
    try dsimp only
    conv => (arg 1; simp [okV_iD, okV_dr, okV_dPt, okV_dP, okV_dG, okV_dC, okV_dB, ix_wd, iD_def, od2])
    refine rp_ok ?_
    try dsimp only
    try simp only [setsE_cons, setsE_nil, List.set_cons_zero, List.set_cons_succ, List.map_cons, List.map_nil, List.length_cons, List.length_nil, List.cons_append, List.nil_append, List.append_nil, List.replicate_succ, List.replicate_zero, Nat.zero_add, Nat.reduceAdd, Nat.reduceSub, wipeE_nil, wipeE_cons, ↓reduceIte, Bool.false_eq_true, Bool.not_true, Bool.not_false]
    exact tq_same ⟨rfl, v, c2, b2⟩
theorem slM_refW {env : Ev} {ma : ME} {k : Nat} {xs : List D} {ml mh : MOp} {lo hi : Option Int} (e : ma env h = .ok (.ref k) h) (q : h[k]? = some (.lst xs)) (el : ml env h = .ok lo h) (eh : mh env h = .ok hi h) : slM ma ml mh env h = newL h (cutD xs lo hi) := by
  unfold slM
  rw [e]
  simp only [R.bindG_ok, el, eh]
  rw [lisOf_ref q]
theorem cut_lastW {xs : List D} {d : D} : cutD (xs ++ [d]) none (some (-1)) = xs := by
  unfold cutD
  rw [HT.sIx_none]
  have : HT.sIx (xs ++ [d]).length (xs ++ [d]).length (some (-1)) = xs.length := by
    unfold HT.sIx
    simp
    try omega
  rw [this, List.drop_zero, Nat.sub_zero, List.take_left']
  rfl
/-- told and due agree -/
theorem eq_cand {d e : D} {v : Option Cd} {n : Nat} (l : ∀ c, v = some c → c.2.length ≤ 100) (a : isN n H d v) (b : isC H e v) : F__law_equal [d, e] H = .ok (.bl true) H := by
  cases v with
  | none =>
    have a : d = .non := a
    have b : e = .non := b
    subst a b
    show F__law_equal_r (9 + 1) [.non, .non] H = _
    simp [eqr_succ, M__law_equal, defM]
  | some c =>
    obtain ⟨k1, _, rfl, q1⟩ := a
    obtain ⟨k2, rfl, q2⟩ := b
    have := l c rfl
    refine eq_tupZ (k := 9) rfl (by simp) fun p hp => ?_
    simp at hp
    rcases hp with rfl | rfl
    · exact eq_dr
    · refine eq_ref (k := 8) q1 q2 rfl (by rw [List.length_map]; omega) fun i x y => ?_
      refine eq_pls 8 _ ?_
      obtain ⟨z, _, e⟩ := List.mem_map.mp (List.getElem_mem x)
      rw [← e]
      rfl
theorem rest {kt lt : Nat} {ps : List (Dv × Nat)} {trs : List Dv} {x0 x1 x5 y7 y8 y9 y10 : Option D} {C : Ct} (pg : Pg gm) (T : isT H kt trs ps) (tr : TrOk trs (4 - lt)) (lu : Lw u) (ul : u.length ≤ 4) (l1 : lt ≤ 1) (cand : u.length ≤ 4 - lt → ∀ c, LwC trs u trs.length c ↔ CdS gm (.v 0) u c)
    (fn : ∀ y7 y8 y9 H', Ap H H' → C.nx [x0, x1, some (iD (lt + 1)), some (dGm gm), some (.ref kt), x5, some (.str (wS u)), y7, y8, y9, y10] H') : sp ((seqM (setM 7 (iteM (btestM (binM leM (callM lenF (aconsM (varM 6) anilM)) (binM subM (constM (.int 5)) (varM 2)))) (callM F__law_best (aconsM (varM 4) (aconsM (varM 6) anilM))) (constM .non))) (seqM (setM 8 (callM F_best_tree (aconsM (varM 3) (aconsM (varM 6) anilM)))) (seqM (ifM (tandM (btestM (binM leM (callM lenF (aconsM (varM 6) anilM)) (binM subM (constM (.int 5)) (varM 2)))) (tnotM (testM (callM F__law_equal (aconsM (varM 8) (aconsM (varM 7) anilM)))))) (retM (constM (.bl false))) nextM) (ifM (btestM (binM (isM true) (varM 8) (constM .non))) (seqM (exprM (methM appendF (binM ixM (varM 8) (constM (.int 1))) (aconsM (tupM (aconsM (constM (.int 0)) (aconsM (constM (.int 0)) anilM))) anilM))) (seqM (setM 9 (callM F_best_tree (aconsM (varM 3) (aconsM (varM 6) anilM)))) (ifM (tnotM (testM (callM F__law_equal (aconsM (slM (binM ixM (varM 8) (constM (.int 1))) noneO (someO (negM (constM (.int 1))))) (aconsM (binM ixM (varM 9) (constM (.int 1))) anilM))))) (retM (constM (.bl false))) nextM))) nextM)))) [x0, x1, some (iD (lt + 1)), some (dGm gm), some (.ref kt), x5, some (.str (wS u)), y7, y8, y9, y10] H) C := by
  have ln : ∀ H : IH, lenF [.str (wS u)] H = .ok (iD u.length) H := fun H => len_wS (by omega)
  have le : ∀ H : IH, leM (iD u.length) (iD (4 - lt)) H = .ok (.bl (decide (u.length ≤ 4 - lt))) H := fun H => le_nat
  have s5 : ∀ K : IH, subM (.int 5) (iD (lt + 1)) K = .ok (iD (4 - lt)) K := fun K => by
    show R.ok (D.int (5 - ((lt + 1 : Nat) : Int))) K = .ok (D.int ((4 - lt : Nat) : Int)) K
    congr 2
    omega
  have os0 : OkSy gm.length (.v 0) := show 0 < gm.length from pg.ok.l1
  have od : ∀ (n : Nat) (K : IH) (d : D) (v : Option Cd), isN n K d v → okV K d = .ok d K := fun n K d v z => by
    cases v with
    | none => have z : d = .non := z; rw [z]; rfl
    | some x => obtain ⟨_, _, rfl, _⟩ := z; rfl
  have odC : ∀ (K : IH) (d : D) (v : Option Cd), isC K d v → okV K d = .ok d K := fun K d v z => by
    cases v with
    | none => have z : d = .non := z; rw [z]; rfl
    | some x => obtain ⟨_, rfl, _⟩ := z; rfl
  have ouV : ∀ v, isBest (CdS gm (.v 0) u) v → ∀ c, v = some c → c.2.length ≤ 100 := fun v b c e => by
    subst e
    have := CdS.ou pg os0 (by omega) b.1
    omega
  -- behind the due
  have go : ∀ (d7 : D) (v7 : Option Cd), isC H d7 v7 → (u.length ≤ 4 - lt → isBest (CdS gm (.v 0) u) v7) → sp ((seqM (setM 8 (callM F_best_tree (aconsM (varM 3) (aconsM (varM 6) anilM)))) (seqM (ifM (tandM (btestM (binM leM (callM lenF (aconsM (varM 6) anilM)) (binM subM (constM (.int 5)) (varM 2)))) (tnotM (testM (callM F__law_equal (aconsM (varM 8) (aconsM (varM 7) anilM)))))) (retM (constM (.bl false))) nextM) (ifM (btestM (binM (isM true) (varM 8) (constM .non))) (seqM (exprM (methM appendF (binM ixM (varM 8) (constM (.int 1))) (aconsM (tupM (aconsM (constM (.int 0)) (aconsM (constM (.int 0)) anilM))) anilM))) (seqM (setM 9 (callM F_best_tree (aconsM (varM 3) (aconsM (varM 6) anilM)))) (ifM (tnotM (testM (callM F__law_equal (aconsM (slM (binM ixM (varM 8) (constM (.int 1))) noneO (someO (negM (constM (.int 1))))) (aconsM (binM ixM (varM 9) (constM (.int 1))) anilM))))) (retM (constM (.bl false))) nextM))) nextM))) [x0, x1, some (iD (lt + 1)), some (dGm gm), some (.ref kt), x5, some (.str (wS u)), some d7, y8, y9, y10] H) C := fun d7 v7 c7 b7 => by
    obtain ⟨d8, H1, e8, A1, v8, c8, b8⟩ := rp_to (ev_best_tree (h := H) pg lu (by omega))
    have o8 := od _ _ _ _ c8
    have c7' := c7.ap A1
    (first | refine sp_seq ?_ | refine sp_set ?_ | refine sp_if ?_ | refine sp_ret ?_ | refine sp_expr ?_ | refine sp_asg ?_ | refine sp_next ?_ | refine sp_brk ?_ | refine sp_cont ?_ | refine sp_raise ?_ | refine sp_put ?_ | refine sp_retN ?_ | refine sp_par ?_ | refine sp_asgL ?_)
    try dsimp only
    (first | refine sp_seq ?_ | refine sp_set ?_ | refine sp_if ?_ | refine sp_ret ?_ | refine sp_expr ?_ | refine sp_asg ?_ | refine sp_next ?_ | refine sp_brk ?_ | refine sp_cont ?_ | refine sp_raise ?_ | refine sp_put ?_ | refine sp_retN ?_ | refine sp_par ?_ | refine sp_asgL ?_)
    try dsimp only
    conv => (arg 1; simp [okV_iD, okV_dr, okV_dPt, okV_dP, okV_dG, okV_dC, okV_dB, ix_wd, iD_def, okV_dGm, okV_wS, e8])
    refine rp_ok ?_
    try dsimp only
    try simp only [setsE_cons, setsE_nil, List.set_cons_zero, List.set_cons_succ, List.map_cons, List.map_nil, List.length_cons, List.length_nil, List.cons_append, List.nil_append, List.append_nil, List.replicate_succ, List.replicate_zero, Nat.zero_add, Nat.reduceAdd, Nat.reduceSub, wipeE_nil, wipeE_cons, ↓reduceIte, Bool.false_eq_true, Bool.not_true, Bool.not_false]
    -- told and due
    have cont : sp ((ifM (btestM (binM (isM true) (varM 8) (constM .non))) (seqM (exprM (methM appendF (binM ixM (varM 8) (constM (.int 1))) (aconsM (tupM (aconsM (constM (.int 0)) (aconsM (constM (.int 0)) anilM))) anilM))) (seqM (setM 9 (callM F_best_tree (aconsM (varM 3) (aconsM (varM 6) anilM)))) (ifM (tnotM (testM (callM F__law_equal (aconsM (slM (binM ixM (varM 8) (constM (.int 1))) noneO (someO (negM (constM (.int 1))))) (aconsM (binM ixM (varM 9) (constM (.int 1))) anilM))))) (retM (constM (.bl false))) nextM))) nextM) [x0, x1, some (iD (lt + 1)), some (dGm gm), some (.ref kt), x5, some (.str (wS u)), some d7, some d8, y9, y10] H1) C := by
      refine sp_if (rp_btest (rp_bin ?_))
      conv => (arg 1; simp [okV_iD, okV_dr, okV_dPt, okV_dP, okV_dG, okV_dC, okV_dB, ix_wd, iD_def, o8])
      refine rp_ok ?_
      try dsimp only
      try simp only [setsE_cons, setsE_nil, List.set_cons_zero, List.set_cons_succ, List.map_cons, List.map_nil, List.length_cons, List.length_nil, List.cons_append, List.nil_append, List.append_nil, List.replicate_succ, List.replicate_zero, Nat.zero_add, Nat.reduceAdd, Nat.reduceSub, wipeE_nil, wipeE_cons, ↓reduceIte, Bool.false_eq_true, Bool.not_true, Bool.not_false]
      conv => (arg 1; simp [okV_iD, okV_dr, okV_dPt, okV_dP, okV_dG, okV_dC, okV_dB, ix_wd, iD_def])
      refine rp_ok ?_
      try dsimp only
      try simp only [setsE_cons, setsE_nil, List.set_cons_zero, List.set_cons_succ, List.map_cons, List.map_nil, List.length_cons, List.length_nil, List.cons_append, List.nil_append, List.append_nil, List.replicate_succ, List.replicate_zero, Nat.zero_add, Nat.reduceAdd, Nat.reduceSub, wipeE_nil, wipeE_cons, ↓reduceIte, Bool.false_eq_true, Bool.not_true, Bool.not_false]
      cases v8 with
      | none =>
        have c8 : d8 = .non := c8
        subst c8
        refine rp_eq (show isM true .non .non H1 = .ok (.bl false) H1 from rfl) ⟨_, rfl, ?_⟩
        simp only [Bool.false_eq_true, if_false]
        (first | refine sp_seq ?_ | refine sp_set ?_ | refine sp_if ?_ | refine sp_ret ?_ | refine sp_expr ?_ | refine sp_asg ?_ | refine sp_next ?_ | refine sp_brk ?_ | refine sp_cont ?_ | refine sp_raise ?_ | refine sp_put ?_ | refine sp_retN ?_ | refine sp_par ?_ | refine sp_asgL ?_)
        try dsimp only
        exact fn _ _ _ H1 A1
      | some c =>
        obtain ⟨k8, k80, rfl, q8⟩ := c8
        have i1 : ∀ K : IH, ixM (.tup [dr c.1, .ref k8]) (.int 1) K = .ok (.ref k8) K := fun K => by simp
        have o8' : ∀ K : IH, okV K (.tup [dr c.1, .ref k8]) = .ok (.tup [dr c.1, .ref k8]) K := fun _ => rfl
        have c100 := ouV _ b8 c rfl
        refine rp_eq (show isM true (.tup [dr c.1, .ref k8]) .non H1 = .ok (.bl true) H1 from rfl) ⟨_, rfl, ?_⟩
        simp only [if_true]
        (first | refine sp_seq ?_ | refine sp_set ?_ | refine sp_if ?_ | refine sp_ret ?_ | refine sp_expr ?_ | refine sp_asg ?_ | refine sp_next ?_ | refine sp_brk ?_ | refine sp_cont ?_ | refine sp_raise ?_ | refine sp_put ?_ | refine sp_retN ?_ | refine sp_par ?_ | refine sp_asgL ?_)
        try dsimp only
        (first | refine sp_seq ?_ | refine sp_set ?_ | refine sp_if ?_ | refine sp_ret ?_ | refine sp_expr ?_ | refine sp_asg ?_ | refine sp_next ?_ | refine sp_brk ?_ | refine sp_cont ?_ | refine sp_raise ?_ | refine sp_put ?_ | refine sp_retN ?_ | refine sp_par ?_ | refine sp_asgL ?_)
        try dsimp only
        refine rp_meth (k := k8) (rp_bin ?_)
        conv => (arg 1; simp [okV_iD, okV_dr, okV_dPt, okV_dP, okV_dG, okV_dC, okV_dB, ix_wd, iD_def, o8'])
        refine rp_ok ?_
        try dsimp only
        try simp only [setsE_cons, setsE_nil, List.set_cons_zero, List.set_cons_succ, List.map_cons, List.map_nil, List.length_cons, List.length_nil, List.cons_append, List.nil_append, List.append_nil, List.replicate_succ, List.replicate_zero, Nat.zero_add, Nat.reduceAdd, Nat.reduceSub, wipeE_nil, wipeE_cons, ↓reduceIte, Bool.false_eq_true, Bool.not_true, Bool.not_false]
        conv => (arg 1; simp [okV_iD, okV_dr, okV_dPt, okV_dP, okV_dG, okV_dC, okV_dB, ix_wd, iD_def])
        refine rp_ok ?_
        try dsimp only
        try simp only [setsE_cons, setsE_nil, List.set_cons_zero, List.set_cons_succ, List.map_cons, List.map_nil, List.length_cons, List.length_nil, List.cons_append, List.nil_append, List.append_nil, List.replicate_succ, List.replicate_zero, Nat.zero_add, Nat.reduceAdd, Nat.reduceSub, wipeE_nil, wipeE_cons, ↓reduceIte, Bool.false_eq_true, Bool.not_true, Bool.not_false]
        refine rp_eq (i1 H1) ⟨_, lisOf_ref q8, rp_acons ?_⟩
        conv => (arg 1; simp [okV_iD, okV_dr, okV_dPt, okV_dP, okV_dG, okV_dC, okV_dB, ix_wd, iD_def, tupM_eq])
        refine rp_ok ?_
        try dsimp only
        try simp only [setsE_cons, setsE_nil, List.set_cons_zero, List.set_cons_succ, List.map_cons, List.map_nil, List.length_cons, List.length_nil, List.cons_append, List.nil_append, List.append_nil, List.replicate_succ, List.replicate_zero, Nat.zero_add, Nat.reduceAdd, Nat.reduceSub, wipeE_nil, wipeE_cons, ↓reduceIte, Bool.false_eq_true, Bool.not_true, Bool.not_false]
        refine rp_anil ?_
        refine rp_append q8 (by rw [List.length_map]; omega) fun H2 U2 q9 => ?_
        have A2 : Ap H H2 := U2.ap A1 k80
        obtain ⟨d9, H3, e9, A3, v9, c9, b9⟩ := rp_to (ev_best_tree (h := H2) pg lu (by omega))
        have ev : v9 = some c := b9.uni b8
        subst ev
        obtain ⟨k9, k90, rfl, q10⟩ := c9
        have j1 : ∀ K : IH, ixM (.tup [dr c.1, .ref k9]) (.int 1) K = .ok (.ref k9) K := fun K => by simp
        have o9' : ∀ K : IH, okV K (.tup [dr c.1, .ref k9]) = .ok (.tup [dr c.1, .ref k9]) K := fun _ => rfl
        try simp only [setsE_cons, setsE_nil, List.set_cons_zero, List.set_cons_succ, List.map_cons, List.map_nil, List.length_cons, List.length_nil, List.cons_append, List.nil_append, List.append_nil, List.replicate_succ, List.replicate_zero, Nat.zero_add, Nat.reduceAdd, Nat.reduceSub, wipeE_nil, wipeE_cons, ↓reduceIte, Bool.false_eq_true, Bool.not_true, Bool.not_false]
        (first | refine sp_seq ?_ | refine sp_set ?_ | refine sp_if ?_ | refine sp_ret ?_ | refine sp_expr ?_ | refine sp_asg ?_ | refine sp_next ?_ | refine sp_brk ?_ | refine sp_cont ?_ | refine sp_raise ?_ | refine sp_put ?_ | refine sp_retN ?_ | refine sp_par ?_ | refine sp_asgL ?_)
        try dsimp only
        (first | refine sp_seq ?_ | refine sp_set ?_ | refine sp_if ?_ | refine sp_ret ?_ | refine sp_expr ?_ | refine sp_asg ?_ | refine sp_next ?_ | refine sp_brk ?_ | refine sp_cont ?_ | refine sp_raise ?_ | refine sp_put ?_ | refine sp_retN ?_ | refine sp_par ?_ | refine sp_asgL ?_)
        try dsimp only
        conv => (arg 1; simp [okV_iD, okV_dr, okV_dPt, okV_dP, okV_dG, okV_dC, okV_dB, ix_wd, iD_def, okV_dGm, okV_wS, e9])
        refine rp_ok ?_
        try dsimp only
        try simp only [setsE_cons, setsE_nil, List.set_cons_zero, List.set_cons_succ, List.map_cons, List.map_nil, List.length_cons, List.length_nil, List.cons_append, List.nil_append, List.append_nil, List.replicate_succ, List.replicate_zero, Nat.zero_add, Nat.reduceAdd, Nat.reduceSub, wipeE_nil, wipeE_cons, ↓reduceIte, Bool.false_eq_true, Bool.not_true, Bool.not_false]
        refine sp_if (rp_tnot (rp_test (rp_call (rp_acons ?_))))
        have z1 : binM ixM (varM 8) (constM (.int 1)) [x0, x1, some (iD (lt + 1)), some (dGm gm), some (.ref kt), x5, some (.str (wS u)), some d7, some (.tup [dr c.1, .ref k8]), some (.tup [dr c.1, .ref k9]), y10] H3 = .ok (.ref k8) H3 := by simp [o8', i1]
        have z2 : someO (negM (constM (.int 1))) [x0, x1, some (iD (lt + 1)), some (dGm gm), some (.ref kt), x5, some (.str (wS u)), some d7, some (.tup [dr c.1, .ref k8]), some (.tup [dr c.1, .ref k9]), y10] H3 = .ok (some (-1)) H3 := by rfl
        refine rp_rw (slM_refW z1 (A3.get q9) (by rfl) z2) (rp_newL ?_)
        intro k10 H4 A4 q11 n11 _
        rw [cut_lastW] at q11
        refine rp_acons (rp_bin ?_)
        conv => (arg 1; simp [okV_iD, okV_dr, okV_dPt, okV_dP, okV_dG, okV_dC, okV_dB, ix_wd, iD_def, o9'])
        refine rp_ok ?_
        try dsimp only
        try simp only [setsE_cons, setsE_nil, List.set_cons_zero, List.set_cons_succ, List.map_cons, List.map_nil, List.length_cons, List.length_nil, List.cons_append, List.nil_append, List.append_nil, List.replicate_succ, List.replicate_zero, Nat.zero_add, Nat.reduceAdd, Nat.reduceSub, wipeE_nil, wipeE_cons, ↓reduceIte, Bool.false_eq_true, Bool.not_true, Bool.not_false]
        conv => (arg 1; simp [okV_iD, okV_dr, okV_dPt, okV_dP, okV_dG, okV_dC, okV_dB, ix_wd, iD_def])
        refine rp_ok ?_
        try dsimp only
        try simp only [setsE_cons, setsE_nil, List.set_cons_zero, List.set_cons_succ, List.map_cons, List.map_nil, List.length_cons, List.length_nil, List.cons_append, List.nil_append, List.append_nil, List.replicate_succ, List.replicate_zero, Nat.zero_add, Nat.reduceAdd, Nat.reduceSub, wipeE_nil, wipeE_cons, ↓reduceIte, Bool.false_eq_true, Bool.not_true, Bool.not_false]
        refine rp_eq (j1 H4) (rp_anil (rp_eq (eq_listsW q11 (A4.get q10) (by rw [List.length_map]; omega) fun d hd => by obtain ⟨z, _, e⟩ := List.mem_map.mp hd; rw [← e]; rfl) ⟨_, rfl, ?_⟩))
        try dsimp only
        (first | refine sp_seq ?_ | refine sp_set ?_ | refine sp_if ?_ | refine sp_ret ?_ | refine sp_expr ?_ | refine sp_asg ?_ | refine sp_next ?_ | refine sp_brk ?_ | refine sp_cont ?_ | refine sp_raise ?_ | refine sp_put ?_ | refine sp_retN ?_ | refine sp_par ?_ | refine sp_asgL ?_)
        try dsimp only
        exact fn _ _ _ H4 ((A2.trans A3).trans A4)
    refine sp_seq (sp_if (rp_tand (rp_btest (rp_bin (rp_call (rp_acons ?_))))))
    conv => (arg 1; simp [okV_iD, okV_dr, okV_dPt, okV_dP, okV_dG, okV_dC, okV_dB, ix_wd, iD_def, okV_wS])
    refine rp_ok ?_
    try dsimp only
    try simp only [setsE_cons, setsE_nil, List.set_cons_zero, List.set_cons_succ, List.map_cons, List.map_nil, List.length_cons, List.length_nil, List.cons_append, List.nil_append, List.append_nil, List.replicate_succ, List.replicate_zero, Nat.zero_add, Nat.reduceAdd, Nat.reduceSub, wipeE_nil, wipeE_cons, ↓reduceIte, Bool.false_eq_true, Bool.not_true, Bool.not_false]
    refine rp_anil (rp_eq (ln H1) (rp_bin ?_))
    conv => (arg 1; simp [okV_iD, okV_dr, okV_dPt, okV_dP, okV_dG, okV_dC, okV_dB, ix_wd, iD_def])
    refine rp_ok ?_
    try dsimp only
    try simp only [setsE_cons, setsE_nil, List.set_cons_zero, List.set_cons_succ, List.map_cons, List.map_nil, List.length_cons, List.length_nil, List.cons_append, List.nil_append, List.append_nil, List.replicate_succ, List.replicate_zero, Nat.zero_add, Nat.reduceAdd, Nat.reduceSub, wipeE_nil, wipeE_cons, ↓reduceIte, Bool.false_eq_true, Bool.not_true, Bool.not_false]
    conv => (arg 1; simp [okV_iD, okV_dr, okV_dPt, okV_dP, okV_dG, okV_dC, okV_dB, ix_wd, iD_def, okV_iD])
    refine rp_ok ?_
    try dsimp only
    try simp only [setsE_cons, setsE_nil, List.set_cons_zero, List.set_cons_succ, List.map_cons, List.map_nil, List.length_cons, List.length_nil, List.cons_append, List.nil_append, List.append_nil, List.replicate_succ, List.replicate_zero, Nat.zero_add, Nat.reduceAdd, Nat.reduceSub, wipeE_nil, wipeE_cons, ↓reduceIte, Bool.false_eq_true, Bool.not_true, Bool.not_false]
    refine rp_eq (s5 H1) (rp_eq (le H1) ⟨_, rfl, ?_⟩)
    by_cases z : u.length ≤ 4 - lt
    · simp only [z, decide_true, if_true]
      have ev : v7 = v8 := (b7 z).uni b8
      subst ev
      refine rp_tnot (rp_test (rp_call (rp_acons ?_)))
      conv => (arg 1; simp [okV_iD, okV_dr, okV_dPt, okV_dP, okV_dG, okV_dC, okV_dB, ix_wd, iD_def, o8])
      refine rp_ok ?_
      try dsimp only
      try simp only [setsE_cons, setsE_nil, List.set_cons_zero, List.set_cons_succ, List.map_cons, List.map_nil, List.length_cons, List.length_nil, List.cons_append, List.nil_append, List.append_nil, List.replicate_succ, List.replicate_zero, Nat.zero_add, Nat.reduceAdd, Nat.reduceSub, wipeE_nil, wipeE_cons, ↓reduceIte, Bool.false_eq_true, Bool.not_true, Bool.not_false]
      refine rp_acons ?_
      conv => (arg 1; simp [okV_iD, okV_dr, okV_dPt, okV_dP, okV_dG, okV_dC, okV_dB, ix_wd, iD_def, odC _ _ _ c7'])
      refine rp_ok ?_
      try dsimp only
      try simp only [setsE_cons, setsE_nil, List.set_cons_zero, List.set_cons_succ, List.map_cons, List.map_nil, List.length_cons, List.length_nil, List.cons_append, List.nil_append, List.append_nil, List.replicate_succ, List.replicate_zero, Nat.zero_add, Nat.reduceAdd, Nat.reduceSub, wipeE_nil, wipeE_cons, ↓reduceIte, Bool.false_eq_true, Bool.not_true, Bool.not_false]
      refine rp_anil (rp_eq (eq_cand (ouV _ b8) c8 c7') ⟨_, rfl, ?_⟩)
      try dsimp only
      (first | refine sp_seq ?_ | refine sp_set ?_ | refine sp_if ?_ | refine sp_ret ?_ | refine sp_expr ?_ | refine sp_asg ?_ | refine sp_next ?_ | refine sp_brk ?_ | refine sp_cont ?_ | refine sp_raise ?_ | refine sp_put ?_ | refine sp_retN ?_ | refine sp_par ?_ | refine sp_asgL ?_)
      try dsimp only
      exact cont
    · simp only [z, decide_false, Bool.false_eq_true, if_false]
      (first | refine sp_seq ?_ | refine sp_set ?_ | refine sp_if ?_ | refine sp_ret ?_ | refine sp_expr ?_ | refine sp_asg ?_ | refine sp_next ?_ | refine sp_brk ?_ | refine sp_cont ?_ | refine sp_raise ?_ | refine sp_put ?_ | refine sp_retN ?_ | refine sp_par ?_ | refine sp_asgL ?_)
      try dsimp only
      exact cont
  (first | refine sp_seq ?_ | refine sp_set ?_ | refine sp_if ?_ | refine sp_ret ?_ | refine sp_expr ?_ | refine sp_asg ?_ | refine sp_next ?_ | refine sp_brk ?_ | refine sp_cont ?_ | refine sp_raise ?_ | refine sp_put ?_ | refine sp_retN ?_ | refine sp_par ?_ | refine sp_asgL ?_)
  try dsimp only
  (first | refine sp_seq ?_ | refine sp_set ?_ | refine sp_if ?_ | refine sp_ret ?_ | refine sp_expr ?_ | refine sp_asg ?_ | refine sp_next ?_ | refine sp_brk ?_ | refine sp_cont ?_ | refine sp_raise ?_ | refine sp_put ?_ | refine sp_retN ?_ | refine sp_par ?_ | refine sp_asgL ?_)
  try dsimp only
  refine rp_ite (rp_btest (rp_bin (rp_call (rp_acons ?_))))
  conv => (arg 1; simp [okV_iD, okV_dr, okV_dPt, okV_dP, okV_dG, okV_dC, okV_dB, ix_wd, iD_def, okV_wS])
  refine rp_ok ?_
  try dsimp only
  try simp only [setsE_cons, setsE_nil, List.set_cons_zero, List.set_cons_succ, List.map_cons, List.map_nil, List.length_cons, List.length_nil, List.cons_append, List.nil_append, List.append_nil, List.replicate_succ, List.replicate_zero, Nat.zero_add, Nat.reduceAdd, Nat.reduceSub, wipeE_nil, wipeE_cons, ↓reduceIte, Bool.false_eq_true, Bool.not_true, Bool.not_false]
  refine rp_anil (rp_eq (ln H) (rp_bin ?_))
  conv => (arg 1; simp [okV_iD, okV_dr, okV_dPt, okV_dP, okV_dG, okV_dC, okV_dB, ix_wd, iD_def])
  refine rp_ok ?_
  try dsimp only
  try simp only [setsE_cons, setsE_nil, List.set_cons_zero, List.set_cons_succ, List.map_cons, List.map_nil, List.length_cons, List.length_nil, List.cons_append, List.nil_append, List.append_nil, List.replicate_succ, List.replicate_zero, Nat.zero_add, Nat.reduceAdd, Nat.reduceSub, wipeE_nil, wipeE_cons, ↓reduceIte, Bool.false_eq_true, Bool.not_true, Bool.not_false]
  conv => (arg 1; simp [okV_iD, okV_dr, okV_dPt, okV_dP, okV_dG, okV_dC, okV_dB, ix_wd, iD_def, okV_iD])
  refine rp_ok ?_
  try dsimp only
  try simp only [setsE_cons, setsE_nil, List.set_cons_zero, List.set_cons_succ, List.map_cons, List.map_nil, List.length_cons, List.length_nil, List.cons_append, List.nil_append, List.append_nil, List.replicate_succ, List.replicate_zero, Nat.zero_add, Nat.reduceAdd, Nat.reduceSub, wipeE_nil, wipeE_cons, ↓reduceIte, Bool.false_eq_true, Bool.not_true, Bool.not_false]
  refine rp_eq (s5 H) (rp_eq (le H) ⟨_, rfl, ?_⟩)
  by_cases z : u.length ≤ 4 - lt
  · simp only [z, decide_true, if_true]
    refine rp_call (rp_acons ?_)
    conv => (arg 1; simp [okV_iD, okV_dr, okV_dPt, okV_dP, okV_dG, okV_dC, okV_dB, ix_wd, iD_def])
    refine rp_ok ?_
    try dsimp only
    try simp only [setsE_cons, setsE_nil, List.set_cons_zero, List.set_cons_succ, List.map_cons, List.map_nil, List.length_cons, List.length_nil, List.cons_append, List.nil_append, List.append_nil, List.replicate_succ, List.replicate_zero, Nat.zero_add, Nat.reduceAdd, Nat.reduceSub, wipeE_nil, wipeE_cons, ↓reduceIte, Bool.false_eq_true, Bool.not_true, Bool.not_false]
    refine rp_acons ?_
    conv => (arg 1; simp [okV_iD, okV_dr, okV_dPt, okV_dP, okV_dG, okV_dC, okV_dB, ix_wd, iD_def, okV_wS])
    refine rp_ok ?_
    try dsimp only
    try simp only [setsE_cons, setsE_nil, List.set_cons_zero, List.set_cons_succ, List.map_cons, List.map_nil, List.length_cons, List.length_nil, List.cons_append, List.nil_append, List.append_nil, List.replicate_succ, List.replicate_zero, Nat.zero_add, Nat.reduceAdd, Nat.reduceSub, wipeE_nil, wipeE_cons, ↓reduceIte, Bool.false_eq_true, Bool.not_true, Bool.not_false]
    refine rp_anil (rp_mono (ev_law_best T tr lu) (fun d H' q => ?_) fun _ _ q => q.elim)
    obtain ⟨rfl, v, c, b⟩ := q
    exact go d v c fun _ => b.congr (cand z)
  · simp only [z, decide_false, Bool.false_eq_true, if_false]
    conv => (arg 1; simp [okV_iD, okV_dr, okV_dPt, okV_dP, okV_dG, okV_dC, okV_dB, ix_wd, iD_def])
    refine rp_ok ?_
    try dsimp only
    try simp only [setsE_cons, setsE_nil, List.set_cons_zero, List.set_cons_succ, List.map_cons, List.map_nil, List.length_cons, List.length_nil, List.cons_append, List.nil_append, List.append_nil, List.replicate_succ, List.replicate_zero, Nat.zero_add, Nat.reduceAdd, Nat.reduceSub, wipeE_nil, wipeE_cons, ↓reduceIte, Bool.false_eq_true, Bool.not_true, Bool.not_false]
    exact go .non none rfl fun q => absurd q z
end
open Classical in
theorem law_true (ns : List Int) (hl : ns.length ≤ 63) : ∃ h, F_law [.fz (ns.map .int)] [] = .ok (.bl true) h := by
  have goal : rp (F_law [.fz (ns.map .int)] []) (fun d _ => d = .bl true) noX := by
    have e0 := ev_stream (ds := ns) (h := [])
    obtain ⟨lt, h0, e1, l2, g0, n0⟩ := ev_dn (k := 2) (st0 (ds := ns)) (by decide)
    have e1' : F__law_next [.ref 1, .int 2] [.lst (ns.map .int), .lst [.ref 0, .int 0, .int 0]] = .ok (iD lt) h0 := e1
    obtain ⟨gm, h1, e2, pg, g1⟩ := ev_law_grammar (lt := lt + 1) g0.st (by decide) (by omega) (by omega)
    have s5 : ∀ K : IH, subM (.int 5) (iD (lt + 1)) K = .ok (iD (4 - lt)) K := fun K => by
      show R.ok (D.int (5 - ((lt + 1 : Nat) : Int))) K = .ok (D.int ((4 - lt : Nat) : Int)) K
      congr 2
      omega
    have os0 : OkSy gm.length (.v 0) := show 0 < gm.length from pg.ok.l1
    obtain ⟨d, h2, e3, kt, ps, rfl, A2, kt1, T2, nT⟩ := rp_to (ev_trees pg 29 60 (4 - lt) (.v 0) (show 0 < gm.length from pg.ok.l1) (by omega) (by omega) (by omega) (by omega) h1)
    have e3' : F__law_trees [dGm gm, .int 0, iD (4 - lt)] h1 = .ok (.ref kt) h2 := e3
    have tr := trD_tr (n := 29) (M := 4 - lt) pg (by omega) (by omega)
    have cand : ∀ u : List Nat, u.length ≤ 4 - lt → ∀ c, LwC (trD gm 29 (.v 0) (4 - lt)) u (trD gm 29 (.v 0) (4 - lt)).length c ↔ CdS gm (.v 0) u c := fun u hu c => by
      rw [CdS_law pg os0 (n := 29) (M := 4 - lt) (by omega) hu]
      constructor
      · rintro ⟨j, d, _, hj, e1, e2⟩
        exact ⟨d, List.mem_of_getElem? hj, e1, e2⟩
      · rintro ⟨d, hd, e1, e2⟩
        obtain ⟨j, hj⟩ := List.getElem?_of_mem hd
        exact ⟨j, d, (List.getElem?_eq_some_iff.mp hj).1, hj, e1, e2⟩
    generalize htr : trD gm 29 (.v 0) (4 - lt) = trs at T2 tr cand
    have z1 := g1.st.lt
    have nm : (1000 : Nat) ≤ NM := by decide
    have np : ∀ p ∈ ps, 2 ≤ p.2 := fun p hp => by have := nT p hp; omega
    unfold F_law M_law
    refine rp_def ?_
    simp only [setsE_cons, setsE_nil, List.set_cons_zero, List.set_cons_succ, List.map_cons, List.map_nil, List.length_cons, List.length_nil, List.cons_append, List.nil_append, List.append_nil, List.replicate_succ, List.replicate_zero, Nat.zero_add, Nat.reduceAdd, Nat.reduceSub, wipeE_nil, wipeE_cons, ↓reduceIte, Bool.false_eq_true, Bool.not_true, Bool.not_false]
    (first | refine sp_seq ?_ | refine sp_set ?_ | refine sp_if ?_ | refine sp_ret ?_ | refine sp_expr ?_ | refine sp_asg ?_ | refine sp_next ?_ | refine sp_brk ?_ | refine sp_cont ?_ | refine sp_raise ?_ | refine sp_put ?_ | refine sp_retN ?_ | refine sp_par ?_ | refine sp_asgL ?_)
    try dsimp only
    (first | refine sp_seq ?_ | refine sp_set ?_ | refine sp_if ?_ | refine sp_ret ?_ | refine sp_expr ?_ | refine sp_asg ?_ | refine sp_next ?_ | refine sp_brk ?_ | refine sp_cont ?_ | refine sp_raise ?_ | refine sp_put ?_ | refine sp_retN ?_ | refine sp_par ?_ | refine sp_asgL ?_)
    try dsimp only
    conv => (arg 1; simp [okV_iD, okV_dr, okV_dPt, okV_dP, okV_dG, okV_dC, okV_dB, ix_wd, iD_def, e0])
    refine rp_ok ?_
    try dsimp only
    try simp only [setsE_cons, setsE_nil, List.set_cons_zero, List.set_cons_succ, List.map_cons, List.map_nil, List.length_cons, List.length_nil, List.cons_append, List.nil_append, List.append_nil, List.replicate_succ, List.replicate_zero, Nat.zero_add, Nat.reduceAdd, Nat.reduceSub, wipeE_nil, wipeE_cons, ↓reduceIte, Bool.false_eq_true, Bool.not_true, Bool.not_false]
    (first | refine sp_seq ?_ | refine sp_set ?_ | refine sp_if ?_ | refine sp_ret ?_ | refine sp_expr ?_ | refine sp_asg ?_ | refine sp_next ?_ | refine sp_brk ?_ | refine sp_cont ?_ | refine sp_raise ?_ | refine sp_put ?_ | refine sp_retN ?_ | refine sp_par ?_ | refine sp_asgL ?_)
    try dsimp only
    (first | refine sp_seq ?_ | refine sp_set ?_ | refine sp_if ?_ | refine sp_ret ?_ | refine sp_expr ?_ | refine sp_asg ?_ | refine sp_next ?_ | refine sp_brk ?_ | refine sp_cont ?_ | refine sp_raise ?_ | refine sp_put ?_ | refine sp_retN ?_ | refine sp_par ?_ | refine sp_asgL ?_)
    try dsimp only
    conv => (arg 1; simp [okV_iD, okV_dr, okV_dPt, okV_dP, okV_dG, okV_dC, okV_dB, ix_wd, iD_def, e1', one_add])
    refine rp_ok ?_
    try dsimp only
    try simp only [setsE_cons, setsE_nil, List.set_cons_zero, List.set_cons_succ, List.map_cons, List.map_nil, List.length_cons, List.length_nil, List.cons_append, List.nil_append, List.append_nil, List.replicate_succ, List.replicate_zero, Nat.zero_add, Nat.reduceAdd, Nat.reduceSub, wipeE_nil, wipeE_cons, ↓reduceIte, Bool.false_eq_true, Bool.not_true, Bool.not_false]
    (first | refine sp_seq ?_ | refine sp_set ?_ | refine sp_if ?_ | refine sp_ret ?_ | refine sp_expr ?_ | refine sp_asg ?_ | refine sp_next ?_ | refine sp_brk ?_ | refine sp_cont ?_ | refine sp_raise ?_ | refine sp_put ?_ | refine sp_retN ?_ | refine sp_par ?_ | refine sp_asgL ?_)
    try dsimp only
    (first | refine sp_seq ?_ | refine sp_set ?_ | refine sp_if ?_ | refine sp_ret ?_ | refine sp_expr ?_ | refine sp_asg ?_ | refine sp_next ?_ | refine sp_brk ?_ | refine sp_cont ?_ | refine sp_raise ?_ | refine sp_put ?_ | refine sp_retN ?_ | refine sp_par ?_ | refine sp_asgL ?_)
    try dsimp only
    conv => (arg 1; simp [okV_iD, okV_dr, okV_dPt, okV_dP, okV_dG, okV_dC, okV_dB, ix_wd, iD_def, e2])
    refine rp_ok ?_
    try dsimp only
    try simp only [setsE_cons, setsE_nil, List.set_cons_zero, List.set_cons_succ, List.map_cons, List.map_nil, List.length_cons, List.length_nil, List.cons_append, List.nil_append, List.append_nil, List.replicate_succ, List.replicate_zero, Nat.zero_add, Nat.reduceAdd, Nat.reduceSub, wipeE_nil, wipeE_cons, ↓reduceIte, Bool.false_eq_true, Bool.not_true, Bool.not_false]
    (first | refine sp_seq ?_ | refine sp_set ?_ | refine sp_if ?_ | refine sp_ret ?_ | refine sp_expr ?_ | refine sp_asg ?_ | refine sp_next ?_ | refine sp_brk ?_ | refine sp_cont ?_ | refine sp_raise ?_ | refine sp_put ?_ | refine sp_retN ?_ | refine sp_par ?_ | refine sp_asgL ?_)
    try dsimp only
    (first | refine sp_seq ?_ | refine sp_set ?_ | refine sp_if ?_ | refine sp_ret ?_ | refine sp_expr ?_ | refine sp_asg ?_ | refine sp_next ?_ | refine sp_brk ?_ | refine sp_cont ?_ | refine sp_raise ?_ | refine sp_put ?_ | refine sp_retN ?_ | refine sp_par ?_ | refine sp_asgL ?_)
    try dsimp only
    conv => (arg 1; simp [okV_iD, okV_dr, okV_dPt, okV_dP, okV_dG, okV_dC, okV_dB, ix_wd, iD_def, okV_dGm, okV_iD, s5, e3'])
    refine rp_ok ?_
    try dsimp only
    try simp only [setsE_cons, setsE_nil, List.set_cons_zero, List.set_cons_succ, List.map_cons, List.map_nil, List.length_cons, List.length_nil, List.cons_append, List.nil_append, List.append_nil, List.replicate_succ, List.replicate_zero, Nat.zero_add, Nat.reduceAdd, Nat.reduceSub, wipeE_nil, wipeE_cons, ↓reduceIte, Bool.false_eq_true, Bool.not_true, Bool.not_false]
    (first | refine sp_seq ?_ | refine sp_set ?_ | refine sp_if ?_ | refine sp_ret ?_ | refine sp_expr ?_ | refine sp_asg ?_ | refine sp_next ?_ | refine sp_brk ?_ | refine sp_cont ?_ | refine sp_raise ?_ | refine sp_put ?_ | refine sp_retN ?_ | refine sp_par ?_ | refine sp_asgL ?_)
    try dsimp only
    refine sp_forR (h1 := h2) [5, 6, 7, 8, 9, 10] 3 (fun i vs H => ∃ y5 y6 y7 y8 y9 y10 : Option D, vs = [y5, y6, y7, y8, y9, y10] ∧ isT H kt trs ps ∧ Gw (1 + 130 + 10 * i) h1 H) (vs := [none, none, none, none, none, none]) rfl (by decide) rfl ⟨_, _, _, _, _, _, rfl, T2, (A2.gw g1.st).mono (by omega)⟩ ?_ ?_
    · rintro i vs H hi ⟨y5, y6, y7, y8, y9, y10, rfl, T, G⟩
      refine ⟨_, rfl, ?_⟩
      obtain ⟨c, H1, e4, c5, g4, n4⟩ := ev_dn (k := 5) G.st (by omega)
      have e4' : F__law_next [.ref 1, .int 5] H = .ok (iD c) H1 := e4
      have T1 : isT H1 kt trs ps := ⟨T.fst, g4.get T.lst (by omega), fun p hp => g4.get (T.out p hp) (np p hp)⟩
      try simp only [setsE_cons, setsE_nil, List.set_cons_zero, List.set_cons_succ, List.map_cons, List.map_nil, List.length_cons, List.length_nil, List.cons_append, List.nil_append, List.append_nil, List.replicate_succ, List.replicate_zero, Nat.zero_add, Nat.reduceAdd, Nat.reduceSub, wipeE_nil, wipeE_cons, ↓reduceIte, Bool.false_eq_true, Bool.not_true, Bool.not_false]
      (first | refine sp_seq ?_ | refine sp_set ?_ | refine sp_if ?_ | refine sp_ret ?_ | refine sp_expr ?_ | refine sp_asg ?_ | refine sp_next ?_ | refine sp_brk ?_ | refine sp_cont ?_ | refine sp_raise ?_ | refine sp_put ?_ | refine sp_retN ?_ | refine sp_par ?_ | refine sp_asgL ?_)
      try dsimp only
      (first | refine sp_seq ?_ | refine sp_set ?_ | refine sp_if ?_ | refine sp_ret ?_ | refine sp_expr ?_ | refine sp_asg ?_ | refine sp_next ?_ | refine sp_brk ?_ | refine sp_cont ?_ | refine sp_raise ?_ | refine sp_put ?_ | refine sp_retN ?_ | refine sp_par ?_ | refine sp_asgL ?_)
      try dsimp only
      refine ev_word (c := c) (lt := lt + 1) g4.st (by omega) (by simp [e4']) (by omega) (by omega) (by omega) (fun J x => by simp [wipeE_cons, wipeE_nil, okV_iD]) (by simp) fun u H2 lu ul g5 => ?_
      have T2' : isT H2 kt trs ps := ⟨T1.fst, g5.get T1.lst (by omega), fun p hp => g5.get (T1.out p hp) (np p hp)⟩
      have G5 := (G.trans g4).trans g5
      have lt2 : ∀ J : IH, ltM (iD i) (.int 2) J = .ok (.bl (decide (i < 2))) J := fun J => lt_nat (b := 2)
      have fin : ∀ (u : List Nat) (H' : IH) (C : Ct), Lw u → u.length ≤ 4 → Gw (1 + 130 + 10 * i + 9) h1 H' → isT H' kt trs ps → (∀ y7 y8 y9 H', isT H' kt trs ps → Gw (1 + 130 + 10 * (i + 1)) h1 H' → C.nx [some (.fz (ns.map .int)), some (.ref 1), some (iD (lt + 1)), some (dGm gm), some (.ref kt), some (iD i), some (.str (wS u)), y7, y8, y9, y10] H') → sp ((seqM (setM 7 (iteM (btestM (binM leM (callM lenF (aconsM (varM 6) anilM)) (binM subM (constM (.int 5)) (varM 2)))) (callM F__law_best (aconsM (varM 4) (aconsM (varM 6) anilM))) (constM .non))) (seqM (setM 8 (callM F_best_tree (aconsM (varM 3) (aconsM (varM 6) anilM)))) (seqM (ifM (tandM (btestM (binM leM (callM lenF (aconsM (varM 6) anilM)) (binM subM (constM (.int 5)) (varM 2)))) (tnotM (testM (callM F__law_equal (aconsM (varM 8) (aconsM (varM 7) anilM)))))) (retM (constM (.bl false))) nextM) (ifM (btestM (binM (isM true) (varM 8) (constM .non))) (seqM (exprM (methM appendF (binM ixM (varM 8) (constM (.int 1))) (aconsM (tupM (aconsM (constM (.int 0)) (aconsM (constM (.int 0)) anilM))) anilM))) (seqM (setM 9 (callM F_best_tree (aconsM (varM 3) (aconsM (varM 6) anilM)))) (ifM (tnotM (testM (callM F__law_equal (aconsM (slM (binM ixM (varM 8) (constM (.int 1))) noneO (someO (negM (constM (.int 1))))) (aconsM (binM ixM (varM 9) (constM (.int 1))) anilM))))) (retM (constM (.bl false))) nextM))) nextM)))) [some (.fz (ns.map .int)), some (.ref 1), some (iD (lt + 1)), some (dGm gm), some (.ref kt), some (iD i), some (.str (wS u)), y7, y8, y9, y10] H') C := fun u H' C lu ul GG TT fn => by
        refine rest pg TT tr lu ul (by omega) (cand u) fun y7 y8 y9 H' A => fn y7 y8 y9 H' (TT.ap A) ((GG.trans (A.gw GG.st)).mono (by omega))
      try simp only [setsE_cons, setsE_nil, List.set_cons_zero, List.set_cons_succ, List.map_cons, List.map_nil, List.length_cons, List.length_nil, List.cons_append, List.nil_append, List.append_nil, List.replicate_succ, List.replicate_zero, Nat.zero_add, Nat.reduceAdd, Nat.reduceSub, wipeE_nil, wipeE_cons, ↓reduceIte, Bool.false_eq_true, Bool.not_true, Bool.not_false]
      (first | refine sp_seq ?_ | refine sp_set ?_ | refine sp_if ?_ | refine sp_ret ?_ | refine sp_expr ?_ | refine sp_asg ?_ | refine sp_next ?_ | refine sp_brk ?_ | refine sp_cont ?_ | refine sp_raise ?_ | refine sp_put ?_ | refine sp_retN ?_ | refine sp_par ?_ | refine sp_asgL ?_)
      try dsimp only
      (first | refine sp_seq ?_ | refine sp_set ?_ | refine sp_if ?_ | refine sp_ret ?_ | refine sp_expr ?_ | refine sp_asg ?_ | refine sp_next ?_ | refine sp_brk ?_ | refine sp_cont ?_ | refine sp_raise ?_ | refine sp_put ?_ | refine sp_retN ?_ | refine sp_par ?_ | refine sp_asgL ?_)
      try dsimp only
      refine rp_tand (rp_test ?_)
      conv => (arg 1; simp [okV_iD, okV_dr, okV_dPt, okV_dP, okV_dG, okV_dC, okV_dB, ix_wd, iD_def])
      refine rp_ok ?_
      try dsimp only
      try simp only [setsE_cons, setsE_nil, List.set_cons_zero, List.set_cons_succ, List.map_cons, List.map_nil, List.length_cons, List.length_nil, List.cons_append, List.nil_append, List.append_nil, List.replicate_succ, List.replicate_zero, Nat.zero_add, Nat.reduceAdd, Nat.reduceSub, wipeE_nil, wipeE_cons, ↓reduceIte, Bool.false_eq_true, Bool.not_true, Bool.not_false]
      refine ⟨_, truB_ref T2'.lst, ?_⟩
      by_cases pe : (!(ps.map dT).isEmpty) = true
      · simp only [pe, if_true]
        conv => (arg 1; simp [okV_iD, okV_dr, okV_dPt, okV_dP, okV_dG, okV_dC, okV_dB, ix_wd, iD_def, okV_iD, lt2])
        refine rp_ok ?_
        try dsimp only
        try simp only [setsE_cons, setsE_nil, List.set_cons_zero, List.set_cons_succ, List.map_cons, List.map_nil, List.length_cons, List.length_nil, List.cons_append, List.nil_append, List.append_nil, List.replicate_succ, List.replicate_zero, Nat.zero_add, Nat.reduceAdd, Nat.reduceSub, wipeE_nil, wipeE_cons, ↓reduceIte, Bool.false_eq_true, Bool.not_true, Bool.not_false]
        by_cases i0 : i < 2
        · simp only [i0, decide_true, if_true]
          have pl : 0 < ps.length := by
            cases ps with
            | nil => simp at pe
            | cons p ps => simp
          have ll : ∀ J : IH, J[kt]? = some (.lst (ps.map dT)) → lenF [.ref kt] J = .ok (iD ps.length) J := fun J q => by
            rw [lenF_ref q, List.length_map]
            rfl
          obtain ⟨x, H3, e6, xl, g6, n6⟩ := ev_dn (k := ps.length) G5.st (by omega) pl (by rw [T.len]; have := tr.le; omega)
          have T3 : isT H3 kt trs ps := ⟨T.fst, g6.get T2'.lst (by omega), fun p hp => g6.get (T2'.out p hp) (np p hp)⟩
          have xm : ps[x]? = some ps[x] := List.getElem?_eq_getElem xl
          have ix1 : ixM (.ref kt) (iD x) H3 = .ok (dT ps[x]) H3 := ix_atL T3.lst (by rw [List.getElem?_map, xm]; rfl)
          have ix2 : ixM (dT ps[x]) (.int 1) H3 = .ok (.str (wS ps[x].1.2.1)) H3 := rfl
          have pm : ps[x].1 ∈ trs := by rw [← T.fst]; exact List.mem_map_of_mem (List.getElem_mem xl)
          have hi4 := tr.hi _ pm
          (first | refine sp_seq ?_ | refine sp_set ?_ | refine sp_if ?_ | refine sp_ret ?_ | refine sp_expr ?_ | refine sp_asg ?_ | refine sp_next ?_ | refine sp_brk ?_ | refine sp_cont ?_ | refine sp_raise ?_ | refine sp_put ?_ | refine sp_retN ?_ | refine sp_par ?_ | refine sp_asgL ?_)
          try dsimp only
          refine rp_bin (rp_bin ?_)
          conv => (arg 1; simp [okV_iD, okV_dr, okV_dPt, okV_dP, okV_dG, okV_dC, okV_dB, ix_wd, iD_def])
          refine rp_ok ?_
          try dsimp only
          try simp only [setsE_cons, setsE_nil, List.set_cons_zero, List.set_cons_succ, List.map_cons, List.map_nil, List.length_cons, List.length_nil, List.cons_append, List.nil_append, List.append_nil, List.replicate_succ, List.replicate_zero, Nat.zero_add, Nat.reduceAdd, Nat.reduceSub, wipeE_nil, wipeE_cons, ↓reduceIte, Bool.false_eq_true, Bool.not_true, Bool.not_false]
          conv => (arg 1; simp [okV_iD, okV_dr, okV_dPt, okV_dP, okV_dG, okV_dC, okV_dB, ix_wd, iD_def, ll H2 T2'.lst, e6])
          refine rp_ok ?_
          try dsimp only
          try simp only [setsE_cons, setsE_nil, List.set_cons_zero, List.set_cons_succ, List.map_cons, List.map_nil, List.length_cons, List.length_nil, List.cons_append, List.nil_append, List.append_nil, List.replicate_succ, List.replicate_zero, Nat.zero_add, Nat.reduceAdd, Nat.reduceSub, wipeE_nil, wipeE_cons, ↓reduceIte, Bool.false_eq_true, Bool.not_true, Bool.not_false]
          refine rp_eq ix1 ?_
          conv => (arg 1; simp [okV_iD, okV_dr, okV_dPt, okV_dP, okV_dG, okV_dC, okV_dB, ix_wd, iD_def])
          refine rp_ok ?_
          try dsimp only
          try simp only [setsE_cons, setsE_nil, List.set_cons_zero, List.set_cons_succ, List.map_cons, List.map_nil, List.length_cons, List.length_nil, List.cons_append, List.nil_append, List.append_nil, List.replicate_succ, List.replicate_zero, Nat.zero_add, Nat.reduceAdd, Nat.reduceSub, wipeE_nil, wipeE_cons, ↓reduceIte, Bool.false_eq_true, Bool.not_true, Bool.not_false]
          refine rp_eq ix2 ?_
          try simp only [setsE_cons, setsE_nil, List.set_cons_zero, List.set_cons_succ, List.map_cons, List.map_nil, List.length_cons, List.length_nil, List.cons_append, List.nil_append, List.append_nil, List.replicate_succ, List.replicate_zero, Nat.zero_add, Nat.reduceAdd, Nat.reduceSub, wipeE_nil, wipeE_cons, ↓reduceIte, Bool.false_eq_true, Bool.not_true, Bool.not_false]
          exact fin _ H3 _ (tr.lw _ pm) (by omega) ((G5.trans g6).mono (by omega)) T3 fun y7 y8 y9 H' TT GG => turn_next (vs := [_, _, _, _, _, _]) rfl ⟨_, _, _, _, _, _, rfl, TT, GG⟩
        · simp only [i0, decide_false, Bool.false_eq_true, if_false]
          (first | refine sp_seq ?_ | refine sp_set ?_ | refine sp_if ?_ | refine sp_ret ?_ | refine sp_expr ?_ | refine sp_asg ?_ | refine sp_next ?_ | refine sp_brk ?_ | refine sp_cont ?_ | refine sp_raise ?_ | refine sp_put ?_ | refine sp_retN ?_ | refine sp_par ?_ | refine sp_asgL ?_)
          try dsimp only
          exact fin u H2 _ lu (by omega) (G5.mono (by omega)) T2' fun y7 y8 y9 H' TT GG => turn_next (vs := [_, _, _, _, _, _]) rfl ⟨_, _, _, _, _, _, rfl, TT, GG⟩
      · simp only [pe, if_false]
        (first | refine sp_seq ?_ | refine sp_set ?_ | refine sp_if ?_ | refine sp_ret ?_ | refine sp_expr ?_ | refine sp_asg ?_ | refine sp_next ?_ | refine sp_brk ?_ | refine sp_cont ?_ | refine sp_raise ?_ | refine sp_put ?_ | refine sp_retN ?_ | refine sp_par ?_ | refine sp_asgL ?_)
        try dsimp only
        exact fin u H2 _ lu (by omega) (G5.mono (by omega)) T2' fun y7 y8 y9 H' TT GG => turn_next (vs := [_, _, _, _, _, _]) rfl ⟨_, _, _, _, _, _, rfl, TT, GG⟩
    · rintro vs H ⟨y5, y6, y7, y8, y9, y10, rfl, T, G⟩
      try simp only [setsE_cons, setsE_nil, List.set_cons_zero, List.set_cons_succ, List.map_cons, List.map_nil, List.length_cons, List.length_nil, List.cons_append, List.nil_append, List.append_nil, List.replicate_succ, List.replicate_zero, Nat.zero_add, Nat.reduceAdd, Nat.reduceSub, wipeE_nil, wipeE_cons, ↓reduceIte, Bool.false_eq_true, Bool.not_true, Bool.not_false]
      (first | refine sp_seq ?_ | refine sp_set ?_ | refine sp_if ?_ | refine sp_ret ?_ | refine sp_expr ?_ | refine sp_asg ?_ | refine sp_next ?_ | refine sp_brk ?_ | refine sp_cont ?_ | refine sp_raise ?_ | refine sp_put ?_ | refine sp_retN ?_ | refine sp_par ?_ | refine sp_asgL ?_)
      try dsimp only
      conv => (arg 1; simp [okV_iD, okV_dr, okV_dPt, okV_dP, okV_dG, okV_dC, okV_dB, ix_wd, iD_def])
      refine rp_ok ?_
      try dsimp only
      try simp only [setsE_cons, setsE_nil, List.set_cons_zero, List.set_cons_succ, List.map_cons, List.map_nil, List.length_cons, List.length_nil, List.cons_append, List.nil_append, List.append_nil, List.replicate_succ, List.replicate_zero, Nat.zero_add, Nat.reduceAdd, Nat.reduceSub, wipeE_nil, wipeE_cons, ↓reduceIte, Bool.false_eq_true, Bool.not_true, Bool.not_false]
      exact tq_ap ⟨Nat.zero_le _, fun i hi => by simp at hi⟩ rfl rfl
  obtain ⟨d, h', e, rfl⟩ := rp_to goal
  exact ⟨h', e⟩
end Zl
open PySem PySem.W PySem.Calls PyProof.Rows
theorem PySem.Challenge.cw_oddscall_k76_best_trees_holds : PySem.Challenge.rw_oddscall_k76_best_trees.Holds := by
  w_on; o_law
  refine HandSHeadRun.head_imp (r := OpenLaw.row PySem.Challenge.rw_oddscall_k76_best_trees) (q := view (OpenLaw.row PySem.Challenge.rw_oddscall_k76_best_trees).prog [0, 56]) (H := Zl.hk) (ob := Zl.ob) (M := 12000) (loose := Zl.loose) (d := HandSHeadRun.topDef (OpenLaw.row PySem.Challenge.rw_oddscall_k76_best_trees).prog 56) (kwd := []) Zl.ob_eq
    Zl.run (by kernel_rfl) (by kernel_rfl) (by kernel_rfl) (by rfl) (by first | assumption | decide +kernel) (by decide +kernel) ⟨rfl, rfl, rfl, rfl, rfl, by decide +kernel⟩ ?hw ?hc
  case hw => w_witness2
  case hc =>
    refine L2.walk_ofE (l := PySem.Challenge.rw_oddscall_k76_best_trees) (n := 63) (k := 65) (x := "_law_script") (CX := L2.CX0) rfl (by decide) (by kernel_rfl) ⟨rfl, by decide, by decide⟩ ?F (fun _ _ _ _ z => z)
    intro w mg fa h Y G hmg0
    obtain ⟨K, KX, c⟩ := Y
    have hmg : mg ("law" : PySem.Str) = some (.ref fa) := by
      have e : (HandSHeadRun.topDef (OpenLaw.row PySem.Challenge.rw_oddscall_k76_best_trees).prog 56).name = ("law" : PySem.Str) := by kernel_rfl
      rw [← e]
      exact hmg0
    obtain ⟨fd, hb, hF⟩ := Zl.facts (P := (PySem.Challenge.rw_oddscall_k76_best_trees).prog) (w := w) KX G hmg c
    exact ⟨K, fd, (fun vs H Q _ => Z.spF K mg 1 Zl.F_law vs H Q fun _ _ _ => False), KX, hb, fun H a ns hl hO hS => Z.law_sp hO hS (Zl.law_true ns hl), fun base _ _ => Z.quiet (hF base)⟩
#print axioms PySem.Challenge.cw_oddscall_k76_best_trees_holds
