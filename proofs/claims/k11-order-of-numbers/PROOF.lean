import PyProof.Rows.All
import Wide.All
import OpenK.AllK
import Wide.FinOn
import HandS.Base
import HandS.Call
import HandS.List
import HandS.Comp
import HandS.Ends
import HandS.Dict
import HandS.Iter
import HandS.Text
import HandS.Exc
import HandS.TryOnly
import HandS.ExcOwn
import HandS.Words
import HandS.WordsList
import HandS.WordsDict
import HandS.WordsExc
import HandS.Defaults
import HandS.IsInst
import HandS.Wide
import HandS.Gcd
import HandS.ExcInit
import HandS.ExcField
import HandS.ExcIs
import HandS.CallSlots
import HandS.HeadHook1
import HandS.HeadHook4
import KE.KeyNested
import HandS.TupAny
import HandS.TupMul
import HandS.Style
import HandS.Deep
import HandS.Flow
import HandS.TupLen
import HandS.Conv
import HandS.RaiseMore
import KE.KExcIs
import HandS.HeadHook2
import HandS.Head0
import HandS.Head1
import HandS.Head2
import HandS.Head3
import HandS.HeadEnd
import HandS.HeadHook3
import KE.KMathG
import Flt.RightSqrt
import HandS.Zip
import HandS.Zip0
import HandS.MakeKwOnly
import KE.GoesNew
import KE.GoesMore
import HandS.SortInts
import HandS.SortRule
import HandS.DictComp
import HandS.Small
import KE.KDictSum
import KE.KDictCopyH
import HandS.TupSets
import KE.DataFind
import PySem.Challenge.RW_oddscall_k11_order_of_numbers
set_option Elab.async false
set_option linter.all false
set_option maxRecDepth 100000
set_option maxHeartbeats 4000000
/-! Z: a law's defs as plain Lean functions over plain data, tied to the hand layer once for each construct. -/
namespace Z
open PySem PySem.Spec PyProof.Rows L2

/-! ### data -/
inductive D where
  | non | bl (b : Bool) | int (i : Int) | str (x : Str) | tup (xs : List D) | ref (n : Nat) | fz (xs : List D) | xv
/-- objects that change -/
inductive IO where
  | lst (xs : List D)
  | dik (kvs : List (L2.Key × D))
  | dit (kvs : List (List Int × D))
  | dig (kvs : List (NestedKey × D))
  | ins (c : Str) (fs : List (Str × D))
abbrev IH := List IO
abbrev Ev := List (Option D)
/-- an exception: its class's name, its fields -/
structure Exc where
  cls : Str
  fs : List (Str × D)
inductive R (α : Type) where
  | ok (a : α) (h : IH)
  | exc (x : Exc) (h : IH)
  | stuck
/-- a statement's end -/
inductive RS where
  | nx (e : Ev) (h : IH)
  | rt (d : D) (h : IH)
  | bk (e : Ev) (h : IH)
  | ct (e : Ev) (h : IH)
  | exc (x : Exc) (e : Ev) (h : IH)
  | stuck
def R.bindG {α γ : Type} (r : R α) (fe : Exc → IH → γ) (st : γ) (f : α → IH → γ) : γ := match r with
  | .ok a h => f a h
  | .exc x h => fe x h
  | .stuck => st
@[simp] theorem R.bindG_ok {α γ : Type} (a : α) (h : IH) (fe : Exc → IH → γ) (st : γ) (f : α → IH → γ) : (R.ok a h).bindG fe st f = f a h := rfl
@[simp] theorem R.bindG_exc {α γ : Type} (x : Exc) (h : IH) (fe : Exc → IH → γ) (st : γ) (f : α → IH → γ) : (R.exc x h : R α).bindG fe st f = fe x h := rfl
@[simp] theorem R.bindG_stuck {α γ : Type} (fe : Exc → IH → γ) (st : γ) (f : α → IH → γ) : (R.stuck : R α).bindG fe st f = st := rfl
/-- one value, then another -/
abbrev R.bind {α β : Type} (r : R α) (f : α → IH → R β) : R β := r.bindG .exc .stuck f
/-- an expression's value, then a statement -/
abbrev R.thenS {α : Type} (r : R α) (e : Ev) (f : α → IH → RS) : RS := r.bindG (fun x h => .exc x e h) .stuck f
/-! ### how the heap bears the data -/
structure Rho where
  as : List Addr
/-- a list that stands still -/
def SqF (K : PySem.W.Frag) (H : Hp) (a : Addr) (xs : List V) : Prop :=
  (∃ o, H a = some (.frz o (.lst xs))) ∨
    ∃ (o : Obj) (its : Array Value) (n : Nat), K.lookup a = some o ∧ o.cls = .type "list" ∧ o.dict = none ∧ o.data = .seq its n ∧ its.size ≤ sizeLine ∧ Vals xs its.toList
theorem SqF.sq {K : PySem.W.Frag} {H : Hp} {a : Addr} {xs : List V} (h : SqF K H a xs) : SqL K H a xs := h.elim (fun z => .inl (.inr z)) .inr
mutual
inductive RepV (K : PySem.W.Frag) (ρ : Rho) (H : Hp) : D → V → Prop
  | non : RepV K ρ H .non .non
  | bl (b : Bool) : RepV K ρ H (.bl b) (.bl b)
  | int (i : Int) : RepV K ρ H (.int i) (.int i)
  | str (x : Str) : RepV K ρ H (.str x) (.str x)
  | tup {a : Addr} {vs : List V} {ds : List D} : SqT K H a vs → RepL K ρ H ds vs → RepV K ρ H (.tup ds) (.ref a)
  | ref {n : Nat} {a : Addr} : ρ.as[n]? = some a → RepV K ρ H (.ref n) (.ref a)
  | fz {a : Addr} {vs : List V} {ds : List D} : SqF K H a vs → RepL K ρ H ds vs → RepV K ρ H (.fz ds) (.ref a)
inductive RepL (K : PySem.W.Frag) (ρ : Rho) (H : Hp) : List D → List V → Prop
  | nil : RepL K ρ H [] []
  | cons {d : D} {ds : List D} {v : V} {vs : List V} : RepV K ρ H d v → RepL K ρ H ds vs → RepL K ρ H (d :: ds) (v :: vs)
end
/-- fields -/
inductive RepF (K : PySem.W.Frag) (ρ : Rho) (H : Hp) : List (Str × D) → List (Str × V) → Prop
  | nil : RepF K ρ H [] []
  | cons {f : Str} {d : D} {v : V} {ds : List (Str × D)} {vs : List (Str × V)} : RepV K ρ H d v → RepF K ρ H ds vs → RepF K ρ H ((f, d) :: ds) ((f, v) :: vs)
/-- from one state to a later one -/
structure Ext (ρ : Rho) (H : Hp) (ρ' : Rho) (H' : Hp) : Prop where
  pre : ρ.as <+: ρ'.as
  new : ∀ a ∈ ρ'.as, a ∈ ρ.as ∨ H a = none
  keep : ∀ a o, H a = some o → a ∉ ρ.as → H' a = some o
  tups : ∀ a xs, H a = some (.tup xs) → H' a = some (.tup xs)
  frzs : ∀ a o u, H a = some (.frz o u) → H' a = some (.frz o u)
  xds : ∀ a fs, H a = some (.xd fs) → H' a = some (.xd fs)
theorem Ext.refl {ρ : Rho} {H : Hp} : Ext ρ H ρ H := ⟨List.prefix_refl _, fun _ z => .inl z, fun _ _ e _ => e, fun _ _ e => e, fun _ _ _ e => e, fun _ _ e => e⟩
theorem Ext.trans {ρ ρ1 ρ2 : Rho} {H H1 H2 : Hp} (x : Ext ρ H ρ1 H1) (y : Ext ρ1 H1 ρ2 H2) : Ext ρ H ρ2 H2 where
  pre := x.pre.trans y.pre
  new := fun a h => by
    rcases y.new a h with z | z
    · exact x.new a z
    · by_cases ha : a ∈ ρ.as
      · exact .inl ha
      · cases e : H a with
        | none => exact .inr rfl
        | some o =>
          have := x.keep a o e ha
          rw [z] at this; cases this
  keep := fun a o e h => y.keep a o (x.keep a o e h) fun z => (x.new a z).elim h fun q => by rw [e] at q; cases q
  tups := fun a xs e => y.tups a xs (x.tups a xs e)
  frzs := fun a o u e => y.frzs a o u (x.frzs a o u e)
  xds := fun a u e => y.xds a u (x.xds a u e)
section
variable {K : PySem.W.Frag} {ρ ρ' : Rho} {H H' : Hp}
theorem Ext.get (x : Ext ρ H ρ' H') {n : Nat} {a : Addr} (h : ρ.as[n]? = some a) : ρ'.as[n]? = some a := by
  obtain ⟨t, e⟩ := x.pre
  rw [← e, List.getElem?_append_left (List.getElem?_eq_some_iff.mp h).1]
  exact h
theorem Ext.sqT (x : Ext ρ H ρ' H') {a : Addr} {vs : List V} (h : SqT K H a vs) : SqT K H' a vs := by
  rcases h with (h | ⟨o, h⟩) | h
  · exact .inl (.inl (x.tups _ _ h))
  · exact .inl (.inr ⟨o, x.frzs _ _ _ h⟩)
  · exact .inr h
theorem Ext.sqF (x : Ext ρ H ρ' H') {a : Addr} {vs : List V} (h : SqF K H a vs) : SqF K H' a vs := by
  rcases h with ⟨o, h⟩ | h
  · exact .inl ⟨o, x.frzs _ _ _ h⟩
  · exact .inr h
mutual
theorem RepV.ext (x : Ext ρ H ρ' H') : ∀ (d : D) (v : V), RepV K ρ H d v → RepV K ρ' H' d v
  | .non, _, h => by cases h; exact .non
  | .bl _, _, h => by cases h; exact .bl _
  | .int _, _, h => by cases h; exact .int _
  | .str _, _, h => by cases h; exact .str _
  | .tup ds, _, h => by
    cases h with
    | tup h1 h2 => exact .tup (x.sqT h1) (RepL.ext x ds _ h2)
  | .ref n, _, h => by
    cases h with
    | ref h1 => exact .ref (x.get h1)
  | .fz ds, _, h => by
    cases h with
    | fz h1 h2 => exact .fz (x.sqF h1) (RepL.ext x ds _ h2)
  | .xv, _, h => by cases h
theorem RepL.ext (x : Ext ρ H ρ' H') : ∀ (ds : List D) (vs : List V), RepL K ρ H ds vs → RepL K ρ' H' ds vs
  | [], _, h => by cases h; exact .nil
  | d :: ds, _, h => by
    cases h with
    | cons h1 h2 => exact .cons (RepV.ext x d _ h1) (RepL.ext x ds _ h2)
end
theorem RepF.ext (x : Ext ρ H ρ' H') : ∀ {ds : List (Str × D)} {vs : List (Str × V)}, RepF K ρ H ds vs → RepF K ρ' H' ds vs
  | _, _, .nil => .nil
  | _, _, .cons r t => .cons (r.ext x) (RepF.ext x t)
theorem RepF.get {f : Str} {e : D} : ∀ {ds : List (Str × D)} {vs : List (Str × V)}, RepF K ρ H ds vs → ds.lookup f = some e → ∃ v, vs.lookup f = some v ∧ RepV K ρ H e v
  | _, _, .nil, h => by cases h
  | _, _, .cons (f := g) (d := d) (v := v) (ds := ds) (vs := vs) r t, h => by
    rw [List.lookup_cons] at h
    rw [List.lookup_cons]
    cases c : (f == g) with
    | true => rw [c] at h; cases h; exact ⟨v, rfl, r⟩
    | false => rw [c] at h; exact RepF.get t h
theorem RepL.length : ∀ {ds : List D} {vs : List V}, RepL K ρ H ds vs → ds.length = vs.length
  | _, _, .nil => rfl
  | _, _, .cons _ t => congrArg Nat.succ (RepL.length t)
theorem RepL.get : ∀ {ds : List D} {vs : List V} {i : Nat} {d : D}, RepL K ρ H ds vs → ds[i]? = some d → ∃ v, vs[i]? = some v ∧ RepV K ρ H d v
  | _, _, _, _, .nil, e => by simp at e
  | _, _, 0, _, .cons r _, e => by simp at e; subst e; exact ⟨_, rfl, r⟩
  | _, _, i + 1, _, .cons _ t, e => by
    obtain ⟨v, h1, h2⟩ := RepL.get (i := i) t (by simpa using e)
    exact ⟨v, by simpa using h1, h2⟩
theorem RepL.append : ∀ {ds es : List D} {vs ws : List V}, RepL K ρ H ds vs → RepL K ρ H es ws → RepL K ρ H (ds ++ es) (vs ++ ws)
  | _, _, _, _, .nil, s => s
  | _, _, _, _, .cons r t, s => .cons r (RepL.append t s)
theorem RepL.set {d : D} {v : V} (r : RepV K ρ H d v) : ∀ {ds : List D} {vs : List V} (i : Nat), RepL K ρ H ds vs → RepL K ρ H (ds.set i d) (vs.set i v)
  | _, _, _, .nil => .nil
  | _, _, 0, .cons _ t => .cons r t
  | _, _, i + 1, .cons q t => .cons q (RepL.set r i t)
end
/-- what a dict holds, its keys ints and texts -/
inductive RepK (K : PySem.W.Frag) (ρ : Rho) (H : Hp) : List (L2.Key × D) → List (L2.Key × V) → Prop
  | nil : RepK K ρ H [] []
  | cons {k : L2.Key} {d : D} {v : V} {ds : List (L2.Key × D)} {vs : List (L2.Key × V)} : RepV K ρ H d v → RepK K ρ H ds vs → RepK K ρ H ((k, d) :: ds) ((k, v) :: vs)
/-- .. tuples of ints -/
inductive RepT (K : PySem.W.Frag) (ρ : Rho) (H : Hp) : List (List Int × D) → List (List Int × Addr × Value) → Prop
  | nil : RepT K ρ H [] []
  | cons {k : List Int} {a : Addr} {d : D} {v : V} {u : Value} {ds : List (List Int × D)} {xs : List (List Int × Addr × Value)} : SqT K H a (k.map V.int) → RepV K ρ H d v → RelV v u → RepT K ρ H ds xs → RepT K ρ H ((k, d) :: ds) ((k, a, u) :: xs)
/-! .. tuples of ints, texts and such -/
mutual
inductive KeyV (K : PySem.W.Frag) (H : Hp) : NestedKey → V → Prop
  | num (i : Int) : KeyV K H (.num i) (.int i)
  | text (x : Str) : KeyV K H (.text x) (.str x)
  | tup {a : Addr} {vs : List V} {ks : List NestedKey} : SqT K H a vs → KeyVs K H ks vs → KeyV K H (.tup ks) (.ref a)
inductive KeyVs (K : PySem.W.Frag) (H : Hp) : List NestedKey → List V → Prop
  | nil : KeyVs K H [] []
  | cons {k : NestedKey} {v : V} {ks : List NestedKey} {vs : List V} : KeyV K H k v → KeyVs K H ks vs → KeyVs K H (k :: ks) (v :: vs)
end
inductive RepN (K : PySem.W.Frag) (ρ : Rho) (H : Hp) : List (NestedKey × D) → List (NestedKey × Addr × Value) → Prop
  | nil : RepN K ρ H [] []
  | cons {k : NestedKey} {a : Addr} {d : D} {v : V} {u : Value} {ds : List (NestedKey × D)} {xs : List (NestedKey × Addr × Value)} : KeyV K H k (.ref a) → RepV K ρ H d v → RelV v u → RepN K ρ H ds xs → RepN K ρ H ((k, d) :: ds) ((k, a, u) :: xs)
mutual
theorem KeyV.mono {K : PySem.W.Frag} {H H' : Hp} (x : ∀ a vs, SqT K H a vs → SqT K H' a vs) : ∀ (k : NestedKey) (v : V), KeyV K H k v → KeyV K H' k v
  | .num i, _, h => by cases h; exact .num i
  | .text y, _, h => by cases h; exact .text y
  | .tup ks, _, h => by
    cases h with
    | tup h1 h2 => exact .tup (x _ _ h1) (KeyVs.mono x ks _ h2)
  | .none, _, h => by cases h
theorem KeyVs.mono {K : PySem.W.Frag} {H H' : Hp} (x : ∀ a vs, SqT K H a vs → SqT K H' a vs) : ∀ (ks : List NestedKey) (vs : List V), KeyVs K H ks vs → KeyVs K H' ks vs
  | [], _, h => by cases h; exact .nil
  | k :: ks, _, h => by
    cases h with
    | cons h1 h2 => exact .cons (KeyV.mono x k _ h1) (KeyVs.mono x ks _ h2)
end
theorem RepN.ext {K : PySem.W.Frag} {ρ ρ' : Rho} {H H' : Hp} (x : Ext ρ H ρ' H') : ∀ {ds : List (NestedKey × D)} {vs : List (NestedKey × Addr × Value)}, RepN K ρ H ds vs → RepN K ρ' H' ds vs
  | _, _, .nil => .nil
  | _, _, .cons a r u t => .cons (KeyV.mono (fun _ _ h => x.sqT h) _ _ a) (r.ext x) u (RepN.ext x t)
theorem RepK.ext {K : PySem.W.Frag} {ρ ρ' : Rho} {H H' : Hp} (x : Ext ρ H ρ' H') : ∀ {ds : List (L2.Key × D)} {vs : List (L2.Key × V)}, RepK K ρ H ds vs → RepK K ρ' H' ds vs
  | _, _, .nil => .nil
  | _, _, .cons r t => .cons (r.ext x) (RepK.ext x t)
theorem RepT.ext {K : PySem.W.Frag} {ρ ρ' : Rho} {H H' : Hp} (x : Ext ρ H ρ' H') : ∀ {ds : List (List Int × D)} {vs : List (List Int × Addr × Value)}, RepT K ρ H ds vs → RepT K ρ' H' ds vs
  | _, _, .nil => .nil
  | _, _, .cons a r u t => .cons (x.sqT a) (r.ext x) u (RepT.ext x t)
/-- the heap's object at a is o -/
def isO (a : Addr) (o : Obj) : Heap → Prop := fun h => h.get? a = some o
def lft (x : List Int × Addr × Value) : List L2.Key × Addr × Value := (x.1.map .inl, x.2)
/-- o is a dict of these -/
def TabT (a : Addr) (o : Obj) (xs : List (List Int × Addr × Value)) : Prop :=
  (a == sysModules) = false ∧ xs.length ≤ sizeLine ∧ o.ExactDict ∧ (xs.map (·.1)).Nodup ∧
    ∃ es, o.data = .dict es xs.length ∧ ∀ (P : Program) (w : World), es.toList = (xs.map lft).map (entryOfKey (tupleKind (mixKind P w)))
/-- the hash of a text, as the dict LENGTHS of the top tells it -/
def strH (K : PySem.W.Frag) (x : Str) : Int := match K.lookup (He.ga K "LENGTHS") with
  | some o => match o.data with
    | .dict es _ => (((es.toList.filterMap He.keyOf).find? fun p => p.1 == x).map (·.2)).getD 0
    | _ => 0
  | none => 0
mutual
def hashN (K : PySem.W.Frag) : NestedKey → Int
  | .none => 0
  | .num i => hashInt i
  | .text x => strH K x
  | .tup ks => reduceHash (Builtin.Tuple.tupleHashOf (hashNs K ks))
def hashNs (K : PySem.W.Frag) : List NestedKey → List Int
  | [] => []
  | k :: ks => hashN K k :: hashNs K ks
end
/-- the texts that may stand in such keys -/
def wds : List Str := ["exit", "draw", "choose", "call", "reward", "reject", "stop"]
mutual
def okN : NestedKey → Bool
  | .none => false
  | .num _ => true
  | .text x => decide (x ∈ wds)
  | .tup ks => okNs ks
def okNs : List NestedKey → Bool
  | [] => true
  | k :: ks => okN k && okNs ks
end
def TabN (K : PySem.W.Frag) (a : Addr) (o : Obj) (xs : List (NestedKey × Addr × Value)) : Prop :=
  (a == sysModules) = false ∧ xs.length ≤ sizeLine ∧ o.ExactDict ∧ (xs.map (·.1)).Nodup ∧ (∀ x ∈ xs, x.1.depth ≤ 8 ∧ okN x.1 = true) ∧
    ∃ es, o.data = .dict es xs.length ∧ es.toList = xs.map fun x => (⟨hashN K x.1, .ref x.2.1, x.2.2⟩ : DictEntry)
/-- an object -/
def RepO (K : PySem.W.Frag) (ρ : Rho) (H : Hp) (a : Addr) : IO → Prop
  | .lst xs => ∃ vs, H a = some (.lst vs) ∧ RepL K ρ H xs vs
  | .dik kvs => ∃ m, H a = some (.dK m) ∧ RepK K ρ H kvs m
  | .dit kvs => ∃ o xs, H a = some (.ext (isO a o)) ∧ TabT a o xs ∧ RepT K ρ H kvs xs
  | .dig kvs => ∃ o xs, H a = some (.ext (isO a o)) ∧ TabN K a o xs ∧ RepN K ρ H kvs xs
  | .ins c fs => ∃ dx vs, H a = some (.ins (He.ga K c) dx vs) ∧ RepF K ρ H fs vs
structure RelH (K : PySem.W.Frag) (ρ : Rho) (ih : IH) (H : Hp) : Prop where
  len : ρ.as.length = ih.length
  nd : ρ.as.Nodup
  obj : ∀ (n : Nat) (a : Addr) (o : IO), ρ.as[n]? = some a → ih[(n : Nat)]? = some o → RepO K ρ H a o
/-- the exception that an except suite holds: where it stands, its class, its own dict, what it says -/
structure XP where
  a : Addr
  cls : Value
  od : Option Addr
  x : Exc
def RepX (K : PySem.W.Frag) (mg : Str → Option Value) (ρ : Rho) (H : Hp) (x : Exc) (cls : Value) (od : Option Addr) : Prop :=
  ∃ (d : Addr) (vs : List (Str × V)), cls = .ref (He.ga K x.cls) ∧ od = some d ∧ H d = some (.xd vs) ∧ RepF K ρ H x.fs vs
theorem RepX.ext {K : PySem.W.Frag} {mg : Str → Option Value} {ρ ρ' : Rho} {H H' : Hp} {x : Exc} {cls : Value} {od : Option Addr} (r : RepX K mg ρ H x cls od) (e : Ext ρ H ρ' H') : RepX K mg ρ' H' x cls od := by
  obtain ⟨d, vs, h2, h3, h4, h5⟩ := r
  exact ⟨d, vs, h2, h3, e.xds _ _ h4, h5.ext e⟩
structure Rel (K : PySem.W.Frag) (xp : Option XP) (ρ : Rho) (env : Ev) (ih : IH) (σ : L2.St) (H : Hp) : Prop where
  hp : RelH K ρ ih H
  len : env.length = σ.length
  var : ∀ (i : Nat) (d : D), env[i]? = some (some d) → d ≠ .xv → ∃ v, σ[i]? = some (some v) ∧ RepV K ρ H d v
  xvar : ∀ (i : Nat), env[i]? = some (some .xv) → ∃ p, xp = some p ∧ σ[i]? = some (some (.ref p.a))
  xok : ∀ p, xp = some p → ∃ mg, RepX K mg ρ H p.x p.cls p.od
section
variable {K : PySem.W.Frag} {xp : Option XP} {ρ ρ' : Rho} {H H' : Hp} {env : Ev} {ih ih' : IH} {σ : L2.St}
theorem RepV.nxv {d : D} {v : V} (r : RepV K ρ H d v) : d ≠ .xv := by rintro rfl; cases r
/-- behind a step that leaves the slots -/
theorem Rel.next (r : Rel K xp ρ env ih σ H) (x : Ext ρ H ρ' H') (h : RelH K ρ' ih' H') : Rel K xp ρ' env ih' σ H' :=
  ⟨h, r.len, fun i d e ne => let ⟨v, e1, e2⟩ := r.var i d e ne; ⟨v, e1, e2.ext x⟩, r.xvar, fun p e => let ⟨mg, q⟩ := r.xok p e; ⟨mg, q.ext x⟩⟩
theorem get_set {α : Type} {l : List α} {i j : Nat} {a b : α} (h : (l.set i a)[j]? = some b) : (i = j ∧ b = a ∧ i < l.length) ∨ (i ≠ j ∧ l[j]? = some b) := by
  by_cases hj : i = j
  · subst hj
    have hi : i < l.length := by
      have := (List.getElem?_eq_some_iff.mp h).1
      simpa using this
    rw [List.getElem?_set_self hi] at h
    cases h
    exact .inl ⟨rfl, rfl, hi⟩
  · rw [List.getElem?_set_ne hj] at h
    exact .inr ⟨hj, h⟩
theorem Rel.set (r : Rel K xp ρ env ih σ H) {d : D} {v : V} (i : Nat) (hv : RepV K ρ H d v) : Rel K xp ρ (env.set i (some d)) ih (σ.set i (some v)) H := by
  refine ⟨r.hp, by simp [r.len], fun j e h ne => ?_, fun j h => ?_, r.xok⟩
  · rcases get_set h with ⟨rfl, e1, hi⟩ | ⟨hj, h⟩
    · cases e1
      exact ⟨v, List.getElem?_set_self (by rw [← r.len]; exact hi), hv⟩
    · rw [List.getElem?_set_ne hj]
      exact r.var j e h ne
  · rcases get_set h with ⟨rfl, e1, hi⟩ | ⟨hj, h⟩
    · cases e1
      exact absurd rfl hv.nxv
    · rw [List.getElem?_set_ne hj]
      exact r.xvar j h
theorem Rel.unset (r : Rel K xp ρ env ih σ H) (i : Nat) {v : Option V} : Rel K xp ρ (env.set i none) ih (σ.set i v) H := by
  refine ⟨r.hp, by simp [r.len], fun j e h ne => ?_, fun j h => ?_, r.xok⟩
  · rcases get_set h with ⟨rfl, e1, hi⟩ | ⟨hj, h⟩
    · cases e1
    · rw [List.getElem?_set_ne hj]
      exact r.var j e h ne
  · rcases get_set h with ⟨rfl, e1, hi⟩ | ⟨hj, h⟩
    · cases e1
    · rw [List.getElem?_set_ne hj]
      exact r.xvar j h
end

/-! ### what is wanted of an end -/
section
variable (K : PySem.W.Frag) (mg : Str → Option Value) (W : WX)
section
variable (ρ : Rho) (σ : L2.St) (H : Hp)
def PostE (Q : VK) : R D → Prop
  | .ok d ih => ∀ ρ' v H', Ext ρ H ρ' H' → RelH K ρ' ih H' → RepV K ρ' H' d v → Q v H'
  | .exc x ih => ∀ ρ' cls od H', Ext ρ H ρ' H' → RelH K ρ' ih H' → RepX K mg ρ' H' x cls od → W cls od σ H'
  | .stuck => False
def PostT (Q : Bool → Hp → Prop) : R Bool → Prop
  | .ok b ih => ∀ ρ' H', Ext ρ H ρ' H' → RelH K ρ' ih H' → Q b H'
  | .exc x ih => ∀ ρ' cls od H', Ext ρ H ρ' H' → RelH K ρ' ih H' → RepX K mg ρ' H' x cls od → W cls od σ H'
  | .stuck => False
def PostA (Q : List V → Hp → Prop) : R (List D) → Prop
  | .ok ds ih => ∀ ρ' vs H', Ext ρ H ρ' H' → RelH K ρ' ih H' → RepL K ρ' H' ds vs → Q vs H'
  | .exc x ih => ∀ ρ' cls od H', Ext ρ H ρ' H' → RelH K ρ' ih H' → RepX K mg ρ' H' x cls od → W cls od σ H'
  | .stuck => False
end
def PostS (xp : Option XP) (ρ : Rho) (H : Hp) (N : Ends) : RS → Prop
  | .nx e ih => ∀ ρ' σ' H', Ext ρ H ρ' H' → Rel K xp ρ' e ih σ' H' → N.nx σ' H'
  | .bk e ih => ∀ ρ' σ' H', Ext ρ H ρ' H' → Rel K xp ρ' e ih σ' H' → N.bk σ' H'
  | .ct e ih => ∀ ρ' σ' H', Ext ρ H ρ' H' → Rel K xp ρ' e ih σ' H' → N.ct σ' H'
  | .rt d ih => ∀ ρ' v H', Ext ρ H ρ' H' → RelH K ρ' ih H' → RepV K ρ' H' d v → N.rt v H'
  | .exc x e ih => ∀ ρ' cls od σ' H', Ext ρ H ρ' H' → Rel K xp ρ' e ih σ' H' → RepX K mg ρ' H' x cls od → W cls od σ' H'
  | .stuck => False
end
section
variable {K : PySem.W.Frag} {mg : Str → Option Value} {W : WX} {xp : Option XP} {ρ ρ' : Rho} {σ : L2.St} {H H' : Hp}
theorem PostE.ext {Q : VK} : ∀ {r : R D}, PostE K mg W ρ σ H Q r → Ext ρ H ρ' H' → PostE K mg W ρ' σ H' Q r
  | .ok _ _, h, x => fun _ v _ y => h _ v _ (x.trans y)
  | .exc _ _, h, x => fun _ _ _ _ y => h _ _ _ _ (x.trans y)
  | .stuck, h, _ => h
theorem PostT.ext {Q : Bool → Hp → Prop} : ∀ {r : R Bool}, PostT K mg W ρ σ H Q r → Ext ρ H ρ' H' → PostT K mg W ρ' σ H' Q r
  | .ok _ _, h, x => fun _ _ y => h _ _ (x.trans y)
  | .exc _ _, h, x => fun _ _ _ _ y => h _ _ _ _ (x.trans y)
  | .stuck, h, _ => h
theorem PostA.ext {Q : List V → Hp → Prop} : ∀ {r : R (List D)}, PostA K mg W ρ σ H Q r → Ext ρ H ρ' H' → PostA K mg W ρ' σ H' Q r
  | .ok _ _, h, x => fun _ v _ y => h _ v _ (x.trans y)
  | .exc _ _, h, x => fun _ _ _ _ y => h _ _ _ _ (x.trans y)
  | .stuck, h, _ => h
theorem PostS.ext {N : Ends} : ∀ {r : RS}, PostS K mg W xp ρ H N r → Ext ρ H ρ' H' → PostS K mg W xp ρ' H' N r
  | .nx _ _, h, x => fun _ _ _ y => h _ _ _ (x.trans y)
  | .bk _ _, h, x => fun _ _ _ y => h _ _ _ (x.trans y)
  | .ct _ _, h, x => fun _ _ _ y => h _ _ _ (x.trans y)
  | .rt _ _, h, x => fun _ v _ y => h _ v _ (x.trans y)
  | .exc _ _ _, h, x => fun _ _ _ _ _ y => h _ _ _ _ _ (x.trans y)
  | .stuck, h, _ => h
end

/-! ### the judgements -/
abbrev ME := Ev → IH → R D
abbrev MT := Ev → IH → R Bool
abbrev MA := Ev → IH → R (List D)
abbrev MS := Ev → IH → RS
def SE (xp : Option XP) (X : Cx) (e : Expr) (m : ME) : Prop := ∀ W : WX, Takes X W → ∃ t, PE X e t ∧
  ∀ ρ env ih σ H Q, Rel X.K xp ρ env ih σ H → PostE X.K X.mg W ρ σ H Q (m env ih) → t σ H Q
def ST (xp : Option XP) (X : Cx) (e : Expr) (m : MT) : Prop := ∀ W : WX, Takes X W → ∃ t, PT X e t ∧
  ∀ ρ env ih σ H Q, Rel X.K xp ρ env ih σ H → PostT X.K X.mg W ρ σ H Q (m env ih) → t σ H Q
/-- a test whatever its whole is -/
def SW (xp : Option XP) (X : Cx) (e : Expr) (m : MT) : Prop := ∀ W : WX, Takes X W → ∃ t, PW X e t ∧
  ∀ ρ env ih σ H Q, Rel X.K xp ρ env ih σ H → PostT X.K X.mg W ρ σ H Q (m env ih) → t σ H Q
def SA (xp : Option XP) (X : Cx) (es : List Expr) (m : MA) : Prop := ∀ W : WX, Takes X W → ∃ t, PA X es t ∧
  ∀ ρ env ih σ H Q, Rel X.K xp ρ env ih σ H → PostA X.K X.mg W ρ σ H Q (m env ih) → t σ H Q
def SS (xp : Option XP) (X : Cx) (st : Stmt) (m : MS) : Prop := ∀ W : WX, Takes X W → ∃ t, PS X st t ∧
  ∀ ρ env ih σ H N, Rel X.K xp ρ env ih σ H → PostS X.K X.mg W xp ρ H N (m env ih) → t N σ H
def SSs (xp : Option XP) (X : Cx) (st : List Stmt) (m : MS) : Prop := ∀ W : WX, Takes X W → ∃ t, PSs X st t ∧
  ∀ ρ env ih σ H N, Rel X.K xp ρ env ih σ H → PostS X.K X.mg W xp ρ H N (m env ih) → t N σ H
end Z
/-! Z2: the heap's moves; operators, names, constants, calls. -/
namespace Z
open PySem PySem.Spec PyProof.Rows L2

/-! ### the heap's moves -/
section
variable {K : PySem.W.Frag} {ρ : Rho} {H : Hp} {ih : IH}
/-- an object that is no list and no tuple of ours is laid -/
theorem Ext.fresh {p : Addr} {o : HO} (hp : H p = none) : Ext ρ H ρ (upd H p o) :=
  ⟨List.prefix_refl _, fun _ z => .inl z, fun a u e _ => by rw [upd_ne (ne_of_none e hp)]; exact e, fun a u e => by rw [upd_ne (ne_of_none e hp)]; exact e,
    fun a u v e => by rw [upd_ne (ne_of_none e hp)]; exact e, fun a u e => by rw [upd_ne (ne_of_none e hp)]; exact e⟩
theorem RepO.ext {ρ' : Rho} {H' : Hp} (x : Ext ρ H ρ' H') {a : Addr} (ha : H' a = H a) : ∀ {o : IO}, RepO K ρ H a o → RepO K ρ' H' a o
  | .lst xs, ⟨vs, e, r⟩ => ⟨vs, ha.trans e, r.ext x⟩
  | .dik _, ⟨m, e, r⟩ => ⟨m, ha.trans e, r.ext x⟩
  | .dit _, ⟨o, xs, e, t, r⟩ => ⟨o, xs, ha.trans e, t, r.ext x⟩
  | .dig _, ⟨o, xs, e, t, r⟩ => ⟨o, xs, ha.trans e, t, r.ext x⟩
  | .ins _ _, ⟨dx, vs, e, r⟩ => ⟨dx, vs, ha.trans e, r.ext x⟩
theorem RelH.ne_none (r : RelH K ρ ih H) {a : Addr} (ha : a ∈ ρ.as) : ∃ o, H a = some o := by
  obtain ⟨n, hn, e⟩ := List.getElem_of_mem ha
  have h1 : ρ.as[n]? = some a := by rw [List.getElem?_eq_getElem hn, e]
  have hi : n < ih.length := by rw [← r.len]; exact hn
  have h2 := r.obj n a ih[n] h1 (List.getElem?_eq_getElem hi)
  cases q : ih[n] with
  | lst xs => rw [q] at h2; obtain ⟨vs, e, _⟩ := h2; exact ⟨_, e⟩
  | dik kvs => rw [q] at h2; obtain ⟨_, e, _⟩ := h2; exact ⟨_, e⟩
  | dit kvs => rw [q] at h2; obtain ⟨_, _, e, _⟩ := h2; exact ⟨_, e⟩
  | dig kvs => rw [q] at h2; obtain ⟨_, _, e, _⟩ := h2; exact ⟨_, e⟩
  | ins c fs => rw [q] at h2; obtain ⟨_, _, e, _⟩ := h2; exact ⟨_, e⟩
/-- what stands aside may be written -/
theorem RelH.aside (r : RelH K ρ ih H) {p : Addr} {o : HO} (hp : H p = none) : RelH K ρ ih (upd H p o) := by
  refine ⟨r.len, r.nd, fun n a u e1 e2 => ?_⟩
  have h := r.obj n a u e1 e2
  have ne : a ≠ p := by
    obtain ⟨z, q⟩ := r.ne_none (List.mem_of_getElem? e1)
    exact ne_of_none q hp
  exact h.ext (Ext.fresh hp) (upd_ne ne)
theorem alloc (r : RelH K ρ ih H) {p : Addr} {vs : List V} {ds : List D} (hp : H p = none) (h : RepL K ρ H ds vs) :
    ∃ ρ', Ext ρ H ρ' (upd H p (.lst vs)) ∧ RelH K ρ' (ih ++ [.lst ds]) (upd H p (.lst vs)) ∧ RepV K ρ' (upd H p (.lst vs)) (.ref ih.length) (.ref p) := by
  have x : Ext ρ H ⟨ρ.as ++ [p]⟩ (upd H p (.lst vs)) :=
    ⟨List.prefix_append _ _, fun a z => by
      rcases List.mem_append.mp z with z | z
      · exact .inl z
      · rw [List.mem_singleton.mp z]; exact .inr hp, fun a u e _ => by rw [upd_ne (ne_of_none e hp)]; exact e, fun a u e => by rw [upd_ne (ne_of_none e hp)]; exact e,
    fun a u v e => by rw [upd_ne (ne_of_none e hp)]; exact e, fun a u e => by rw [upd_ne (ne_of_none e hp)]; exact e⟩
  have np : p ∉ ρ.as := fun z => by
    obtain ⟨o, e⟩ := r.ne_none z
    rw [hp] at e; cases e
  refine ⟨⟨ρ.as ++ [p]⟩, x, ⟨by simp [r.len], List.nodup_append.mpr ⟨r.nd, by simp, fun a ha b hb => by
    rw [List.mem_singleton.mp hb]; rintro rfl; exact np ha⟩, fun n a u e1 e2 => ?_⟩, .ref ?_⟩
  · by_cases hn : n < ih.length
    · have hn' : n < ρ.as.length := by rw [r.len]; exact hn
      rw [List.getElem?_append_left hn'] at e1
      rw [List.getElem?_append_left hn] at e2
      have ne : a ≠ p := by rintro rfl; exact np (List.mem_of_getElem? e1)
      exact (r.obj n a u e1 e2).ext x (upd_ne ne)
    · have hl : n < (ih ++ [IO.lst ds]).length := (List.getElem?_eq_some_iff.mp e2).1
      have en : n = ih.length := by simp at hl; omega
      subst en
      have q1 : (ρ.as ++ [p])[ih.length]? = some p := by rw [← r.len]; simp
      have e1' : (ρ.as ++ [p])[ih.length]? = some a := e1
      rw [q1] at e1'; cases e1'
      have q2 : (ih ++ [IO.lst ds])[ih.length]? = some (.lst ds) := by simp
      rw [q2] at e2; cases e2
      exact ⟨vs, upd_same, h.ext x⟩
  · show (ρ.as ++ [p])[ih.length]? = some p
    rw [← r.len]; simp
theorem rewrite (r : RelH K ρ ih H) {n : Nat} {a : Addr} {vs us : List V} {ds : List D} (ha : ρ.as[n]? = some a) (hl : H a = some (.lst us)) (h : RepL K ρ H ds vs) :
    Ext ρ H ρ (upd H a (.lst vs)) ∧ RelH K ρ (ih.set n (.lst ds)) (upd H a (.lst vs)) := by
  have hm : a ∈ ρ.as := List.mem_of_getElem? ha
  have x : Ext ρ H ρ (upd H a (.lst vs)) :=
    ⟨List.prefix_refl _, fun _ z => .inl z, fun b u e hb => by rw [upd_ne (by rintro rfl; exact hb hm)]; exact e, fun b u e => by rw [upd_ne (by rintro rfl; rw [hl] at e; cases e)]; exact e,
      fun b u v e => by rw [upd_ne (by rintro rfl; rw [hl] at e; cases e)]; exact e, fun b u e => by rw [upd_ne (by rintro rfl; rw [hl] at e; cases e)]; exact e⟩
  refine ⟨x, by rw [r.len, List.length_set], r.nd, fun m b u e1 e2 => ?_⟩
  by_cases hmn : n = m
  · subst hmn
    rw [ha] at e1; cases e1
    have hn : n < ih.length := by rw [← r.len]; exact (List.getElem?_eq_some_iff.mp ha).1
    rw [List.getElem?_set_self hn] at e2
    cases e2
    exact ⟨vs, upd_same, h.ext x⟩
  · rw [List.getElem?_set_ne hmn] at e2
    have ne : b ≠ a := by
      rintro rfl
      obtain ⟨h1, q1⟩ := List.getElem?_eq_some_iff.mp e1
      obtain ⟨h2, q2⟩ := List.getElem?_eq_some_iff.mp ha
      exact hmn ((List.getElem_inj r.nd).mp (q2.trans q1.symm))
    exact (r.obj m b u e1 e2).ext x (upd_ne ne)
/-- a list of ours -/
theorem RelH.lst (r : RelH K ρ ih H) {n : Nat} {a : Addr} {ds : List D} (ha : ρ.as[n]? = some a) (hn : ih[n]? = some (.lst ds)) : ∃ vs, H a = some (.lst vs) ∧ RepL K ρ H ds vs := r.obj n a _ ha hn
end

/-! ### readings joined -/
/-! ### names, constants -/
section
variable {xp : Option XP} {X : Cx}
def varM (i : Nat) : ME := fun env h => match env[i]? with
  | some (some .xv) => .stuck
  | some (some d) => .ok d h
  | _ => .stuck
theorem s_var {i : Nat} {x : Str} {pos : Pos} (h : PE X (.Name x pos) (tVar i)) : SE xp X (.Name x pos) (varM i) := fun W tk => ⟨_, h, fun ρ env ih σ H Q r post => by
  unfold varM at post
  split at post
  · exact post.elim
  · rename_i d ne e
    obtain ⟨v, e1, e2⟩ := r.var i d e ne
    exact ⟨v, e1, post ρ v H .refl r.hp e2⟩
  · exact post.elim⟩
def constM (d : D) : ME := fun _ h => .ok d h
theorem s_const {e : Expr} {d : D} {v : V} (h : PE X e (tC v)) (r : ∀ ρ H, RepV X.K ρ H d v) : SE xp X e (constM d) := fun W tk => ⟨_, h, fun ρ env ih σ H Q rl post => post ρ v H .refl rl.hp (r ρ H)⟩
theorem s_int {i : Int} {j : Nat} {pos : Pos} : SE xp X (.Constant (.int i) j pos) (constM (.int i)) := s_const pe_int fun _ _ => .int _
theorem s_bl {b : Bool} {j : Nat} {pos : Pos} : SE xp X (.Constant (.bool b) j pos) (constM (.bl b)) := s_const pe_bl fun _ _ => .bl _
theorem s_non {j : Nat} {pos : Pos} : SE xp X (.Constant .none j pos) (constM .non) := s_const pe_non fun _ _ => .non
theorem s_str {x : Str} {j : Nat} {pos : Pos} : SE xp X (.Constant (.str x) j pos) (constM (.str x)) := s_const pe_str fun _ _ => .str _

/-! ### operators -/
abbrev MO := D → D → IH → R D
/-- an operation keeps: f with the meaning m -/
def SO (X : Cx) (f : Value → Value → Sem Value) (m : MO) : Prop := ∃ r : R2, OpR X f r ∧
  ∀ W ρ ih H σ Q d e x y, RelH X.K ρ ih H → RepV X.K ρ H d x → RepV X.K ρ H e y → PostE X.K X.mg W ρ σ H Q (m d e ih) → r x y H Q
def binM (o : MO) (ma mb : ME) : ME := fun env h => (ma env h).bind fun x h1 => (mb env h1).bind fun y h2 => o x y h2
variable {a b : Expr} {ma mb : ME} {pos : Pos}
end
end Z
/-! Z3: operators by data. -/
namespace Z
open PySem PySem.Spec PyProof.Rows L2
section
variable {xp : Option XP} {X : Cx}
/-! ### equality of data -/
def pdL (f : D → Option PyData) : List D → Option (List PyData)
  | [] => some []
  | d :: ds => match f d, pdL f ds with
    | some p, some ps => some (p :: ps)
    | _, _ => none
def pd : Nat → IH → D → Option PyData
  | 0, _, _ => none
  | k + 1, h, d => match d with
    | .non => some .none
    | .bl b => some (.bool b)
    | .int i => some (.int i)
    | .str x => some (.str x)
    | .tup ds => (pdL (pd k h) ds).map .tuple
    | .fz ds => (pdL (pd k h) ds).map .list
    | .ref n => match h[n]? with
      | some (.lst ds) => (pdL (pd k h) ds).map .list
      | _ => none
    | .xv => none
theorem pdL_all {K : PySem.W.Frag} {ρ : Rho} {H : Hp} {f : D → Option PyData} (hf : ∀ d p v, f d = some p → RepV K ρ H d v → Dp K H v p) :
    ∀ {ds : List D} {ps : List PyData} {vs : List V}, pdL f ds = some ps → RepL K ρ H ds vs → DpAll K H vs ps
  | [], _, _, e, .nil => by cases e; exact .nil
  | d :: ds, _, _, e, .cons r t => by
    unfold pdL at e
    split at e
    · rename_i p ps e1 e2
      cases e
      exact .cons (hf _ _ _ e1 r) (pdL_all hf e2 t)
    · cases e
theorem pd_dp {K : PySem.W.Frag} {ρ : Rho} {H : Hp} {ih : IH} (rl : RelH K ρ ih H) : ∀ {k : Nat} {d : D} {p : PyData} {v : V}, pd k ih d = some p → RepV K ρ H d v → Dp K H v p
  | 0, _, _, _, e, _ => by cases e
  | k + 1, d, p, v, e, r => by
    have ihd : ∀ d p v, pd k ih d = some p → RepV K ρ H d v → Dp K H v p := fun d p v => pd_dp rl
    cases r with
    | non => cases e; exact .non
    | bl b => cases e; exact .bl b
    | int i => cases e; exact .int i
    | str x => cases e; exact .str x
    | @tup a vs ds h1 h2 =>
      obtain ⟨ps, e1, e2⟩ := Option.map_eq_some_iff.mp (show (pdL (pd k ih) ds).map PyData.tuple = some p from e)
      cases e2
      exact .tup h1 (pdL_all ihd e1 h2)
    | @fz a vs ds h1 h2 =>
      obtain ⟨ps, e1, e2⟩ := Option.map_eq_some_iff.mp (show (pdL (pd k ih) ds).map PyData.list = some p from e)
      cases e2
      exact .lst h1.sq (pdL_all ihd e1 h2)
    | @ref n a h1 =>
      have e' : (match ih[n]? with
        | some (.lst ds) => (pdL (pd k ih) ds).map PyData.list
        | _ => none) = some p := e
      split at e'
      · rename_i ds hn
        obtain ⟨ps, e1, e2⟩ := Option.map_eq_some_iff.mp e'
        cases e2
        obtain ⟨vs, hv, hr⟩ := rl.lst h1 hn
        exact .lst (SqL.of hv) (pdL_all ihd e1 hr)
      · cases e'
/-- depth of data that is compared -/
def pdK : Nat := 16
def eqB (h : IH) (d e : D) : Option Bool := match pd pdK h d, pd pdK h e with
  | some p, some q => if SeqAt.shaped p = true ∧ SeqAt.shaped q = true then some (PyData.eqv p q) else none
  | _, _ => none
def eqM : MO := fun d e h => match eqB h d e with
  | some b => .ok (.bl b) h
  | none => .stuck
def neM : MO := fun d e h => match eqB h d e with
  | some b => .ok (.bl (!b)) h
  | none => .stuck
theorem eqB_of {K : PySem.W.Frag} {ρ : Rho} {H : Hp} {ih : IH} (rl : RelH K ρ ih H) {d e : D} {x y : V} {b : Bool} (q : eqB ih d e = some b) (hd : RepV K ρ H d x) (he : RepV K ρ H e y) :
    ∃ p q, Dp K H x p ∧ Dp K H y q ∧ SeqAt.shaped p = true ∧ SeqAt.shaped q = true ∧ PyData.eqv p q = b := by
  unfold eqB at q
  split at q
  · rename_i p q' e1 e2
    split at q
    · rename_i c
      cases q
      exact ⟨p, q', pd_dp rl e1 hd, pd_dp rl e2 he, c.1, c.2, rfl⟩
    · cases q
  · cases q
theorem o_eq (hu : X.A.units + 64 < cLine) : SO X (compareOp .Eq) eqM := ⟨_, op_eqD hu, fun W ρ ih H σ Q d e x y rl hd he post => by
  unfold eqM at post
  split at post
  · rename_i b q
    obtain ⟨p, q', h1, h2, h3, h4, h5⟩ := eqB_of rl q hd he
    subst h5
    exact ⟨p, q', h1, h2, h3, h4, post ρ _ H .refl rl (.bl _)⟩
  · exact post.elim⟩
theorem o_ne (hu : X.A.units + 64 < cLine) : SO X (compareOp .NotEq) neM := ⟨_, op_neD hu, fun W ρ ih H σ Q d e x y rl hd he post => by
  unfold neM at post
  split at post
  · rename_i b q
    obtain ⟨p, q', h1, h2, h3, h4, h5⟩ := eqB_of rl q hd he
    subst h5
    exact ⟨p, q', h1, h2, h3, h4, post ρ _ H .refl rl (.bl _)⟩
  · exact post.elim⟩

/-! ### ints -/
def small (i j : Int) : Prop := i.natAbs.log2 + j.natAbs.log2 < 1000000
instance (i j : Int) : Decidable (small i j) := by unfold small; infer_instance
/-- an operation on two ints, of an int -/
def intM (C : Int → Int → Prop) [∀ i j, Decidable (C i j)] (g : Int → Int → Int) : MO := fun d e h => match d, e with
  | .int i, .int j => if C i j then .ok (.int (g i j)) h else .stuck
  | _, _ => .stuck
def cmpM (g : Int → Int → Bool) : MO := fun d e h => match d, e with
  | .int i, .int j => .ok (.bl (g i j)) h
  | _, _ => .stuck
theorem o_int {f : Value → Value → Sem Value} {C : Int → Int → Prop} [∀ i j, Decidable (C i j)] {g : Int → Int → Int} (o : OpR X f (rI C fun i j => .int (g i j))) : SO X f (intM C g) := ⟨_, o, fun W ρ ih H σ Q d e x y rl hd he post => by
  unfold intM at post
  split at post
  · cases hd
    cases he
    split at post
    · rename_i c
      exact ⟨_, _, rfl, rfl, c, post ρ _ H .refl rl (.int _)⟩
    · exact post.elim
  · exact post.elim⟩
theorem o_cmp {f : Value → Value → Sem Value} {g : Int → Int → Bool} (o : OpR X f (rI0 fun i j => .bl (g i j))) : SO X f (cmpM g) := ⟨_, o, fun W ρ ih H σ Q d e x y rl hd he post => by
  unfold cmpM at post
  split at post
  · cases hd
    cases he
    exact ⟨_, _, rfl, rfl, post ρ _ H .refl rl (.bl _)⟩
  · exact post.elim⟩
def ltM : MO := cmpM fun i j => decide (i < j)
def leM : MO := cmpM fun i j => decide (i ≤ j)
def gtM : MO := cmpM fun i j => decide (j < i)
def geM : MO := cmpM fun i j => decide (j ≤ i)
theorem o_lt : SO X (compareOp .Lt) ltM := o_cmp op_lt
theorem o_le : SO X (compareOp .LtE) leM := o_cmp op_le
theorem o_gt : SO X (compareOp .Gt) gtM := o_cmp op_gt
theorem o_ge : SO X (compareOp .GtE) geM := o_cmp op_ge
theorem op_sub' : OpR X (binaryOp .Sub) (rI (fun _ _ => True) fun i j => .int (i - j)) := opI fun _ _ _ _ _ _ _ _ q => sub_int q
theorem op_fdivZ : OpR X (binaryOp .FloorDiv) (rI (fun _ j => j ≠ 0 ∧ j.natAbs.log2 < 9000) fun i j => .int (i.fdiv j)) := opI fun _ _ _ _ _ _ _ hc q => floordiv_int hc.1 q (.inl (PyProof.noPylong_of_log2 hc.2))
def subM : MO := intM (fun _ _ => True) fun i j => i - j
def fdivM : MO := intM (fun _ j => j ≠ 0 ∧ j.natAbs.log2 < 9000) fun i j => i.fdiv j
def modM : MO := intM (fun _ j => j ≠ 0) fun i j => i.fmod j
def powM : MO := intM (fun i j => 0 ≤ j ∧ j ≤ 1000000 ∧ i.natAbs < 2 ^ 64) fun i j => i ^ j.toNat
theorem o_sub : SO X (binaryOp .Sub) subM := o_int op_sub'
theorem o_fdiv : SO X (binaryOp .FloorDiv) fdivM := o_int op_fdivZ
theorem o_mod : SO X (binaryOp .Mod) modM := o_int op_modN
theorem o_pow : SO X (binaryOp .Pow) powM := o_int op_pow

/-! ### + and * -/
def newL (h : IH) (ds : List D) : R D := .ok (.ref h.length) (h ++ [.lst ds])
def addM : MO := fun d e h => match d, e with
  | .int i, .int j => .ok (.int (i + j)) h
  | .str x, .str y => if x.length + y.length ≤ sizeLine then .ok (.str (x ++ y)) h else .stuck
  | .tup xs, .tup ys => if xs.length + ys.length ≤ sizeLine then .ok (.tup (xs ++ ys)) h else .stuck
  | .ref n, .ref m => match h[n]?, h[m]? with
    | some (.lst xs), some (.lst ys) => if xs.length + ys.length ≤ sizeLine then newL h (xs ++ ys) else .stuck
    | _, _ => .stuck
  | _, _ => .stuck
theorem RepL.nil_iff {K : PySem.W.Frag} {ρ : Rho} {H : Hp} {ds : List D} {vs : List V} (r : RepL K ρ H ds vs) : vs = [] ↔ ds = [] := by
  cases r <;> simp
theorem o_add : SO X (binaryOp .Add) addM := ⟨_, op_add.or (op_add_str.or (op_catA.or op_cat)), fun W ρ ih H σ Q d e x y rl hd he post => by
  unfold addM at post
  split at post
  · cases hd
    cases he
    exact .inl ⟨_, _, rfl, rfl, post ρ _ H .refl rl (.int _)⟩
  · cases hd
    cases he
    split at post
    · rename_i c
      exact .inr (.inl ⟨_, _, rfl, rfl, c, post ρ _ H .refl rl (.str _)⟩)
    · exact post.elim
  · rename_i xs ys
    cases hd with
    | @tup a vs _ h1 h2 =>
      cases he with
      | @tup b us _ g1 g2 =>
        split at post
        · rename_i c
          refine .inr (.inr (.inl ⟨a, b, vs, us, rfl, rfl, h1, g1, by rw [← h2.length, ← g2.length]; exact c, fun ev => ?_, fun _ eu => ?_, fun _ _ p hp => ?_⟩))
          · have := h2.nil_iff.mp ev
            subst this
            exact post ρ _ H .refl rl (.tup g1 (by simpa using g2))
          · have := g2.nil_iff.mp eu
            subst this
            exact post ρ _ H .refl rl (.tup h1 (by simpa using h2))
          · exact post ρ _ _ (Ext.fresh hp) (rl.aside hp) (.tup (SqT.of upd_same) ((h2.append g2).ext (Ext.fresh hp)))
        · exact post.elim
  · split at post
    · rename_i n m xs ys hn hm
      split at post
      · rename_i c
        cases hd with
        | @ref _ a ha =>
          cases he with
          | @ref _ b hb =>
            obtain ⟨vs, e1, r1⟩ := rl.lst ha hn
            obtain ⟨us, e2, r2⟩ := rl.lst hb hm
            refine .inr (.inr (.inr ⟨a, b, vs, us, rfl, rfl, e1, e2, by rw [← r1.length, ← r2.length]; exact c, fun p hp => ?_⟩))
            obtain ⟨ρ', x', rl', rv⟩ := alloc rl hp (r1.append r2)
            exact post ρ' _ _ x' rl' rv
      · exact post.elim
    · exact post.elim
  · exact post.elim⟩
def mulM : MO := fun d e h => match d, e with
  | .int i, .int j => if small i j then .ok (.int (i * j)) h else .stuck
  | .ref n, .int k => match h[n]? with
    | some (.lst xs) => if -(2 ^ 63) ≤ k ∧ k < 2 ^ 63 ∧ xs.length * k.toNat ≤ sizeLine then newL h (List.replicate k.toNat xs).flatten else .stuck
    | _ => .stuck
  | .tup xs, .int k => if xs.isEmpty = false ∧ 2 ≤ k ∧ k ≤ 1000 ∧ xs.length ≤ 1000 then .ok (.tup (List.replicate k.toNat xs).flatten) h else .stuck
  | _, _ => .stuck
theorem RepL.rep {K : PySem.W.Frag} {ρ : Rho} {H : Hp} {ds : List D} {vs : List V} (r : RepL K ρ H ds vs) : ∀ n : Nat, RepL K ρ H (List.replicate n ds).flatten (List.replicate n vs).flatten
  | 0 => .nil
  | n + 1 => by
    rw [List.replicate_succ, List.replicate_succ, List.flatten_cons, List.flatten_cons]
    exact r.append (RepL.rep r n)
theorem o_mul : SO X (binaryOp .Mult) mulM := ⟨_, op_mulW.or (op_rep.or op_repT), fun W ρ ih H σ Q d e x y rl hd he post => by
  unfold mulM at post
  split at post
  · cases hd
    cases he
    split at post
    · rename_i c
      exact .inl ⟨_, _, rfl, rfl, c, post ρ _ H .refl rl (.int _)⟩
    · exact post.elim
  · split at post
    · rename_i n k _ xs hn
      split at post
      · rename_i c
        cases hd with
        | @ref _ a ha =>
          cases he
          obtain ⟨vs, e1, r1⟩ := rl.lst ha hn
          refine .inr (.inl ⟨a, k, vs, rfl, rfl, e1, c.1, c.2.1, by rw [← r1.length]; exact c.2.2, fun p hp => ?_⟩)
          obtain ⟨ρ', x', rl', rv⟩ := alloc rl hp (r1.rep k.toNat)
          exact post ρ' _ _ x' rl' rv
      · exact post.elim
    · exact post.elim
  · split at post
    · rename_i xs k c
      cases hd with
      | @tup b vs xs q1 q2 =>
        cases he
        refine .inr (.inr ⟨b, k, vs, rfl, rfl, q1, ?_, c.2.1, c.2.2.1, by rw [← q2.length]; exact c.2.2.2, fun p hp => ?_⟩)
        · rintro rfl
          have := q2.length
          have c1 := c.1
          cases xs with
          | nil => cases c1
          | cons _ _ => cases this
        · exact post ρ _ _ (Ext.fresh hp) (rl.aside hp) (.tup (SqT.of upd_same) ((q2.rep k.toNat).ext (Ext.fresh hp)))
    · exact post.elim
  · exact post.elim⟩

/-! ### is -/
def isM (neg : Bool) : MO := fun d e h => match d, e with
  | .bl a, .bl b => .ok (.bl (xor neg (a == b))) h
  | .non, .non => .ok (.bl (!neg)) h
  | .int _, .non | .bl _, .non | .str _, .non | .tup _, .non | .ref _, .non | .fz _, .non => .ok (.bl neg) h
  | _, _ => .stuck
theorem RepV.non_iff {K : PySem.W.Frag} {ρ : Rho} {H : Hp} {d : D} {v : V} (r : RepV K ρ H d v) : (v = .non) ↔ d = .non := by
  cases r <;> simp
theorem o_is : SO X (compareOp .Is) (isM false) := ⟨_, op_isBl.or op_isN, fun W ρ ih H σ Q d e x y rl hd he post => by
  unfold isM at post
  split at post
  · rename_i a b
    cases hd
    cases he
    refine .inl ⟨_, _, rfl, rfl, ?_⟩
    have e : decide (a = b) = xor false (a == b) := by cases a <;> cases b <;> rfl
    rw [e]
    exact post ρ _ H .refl rl (.bl _)
  · cases hd
    cases he
    exact .inr ⟨rfl, post ρ _ H .refl rl (.bl _)⟩
  all_goals first
    | exact post.elim
    | (cases he
       refine .inr ⟨rfl, ?_⟩
       have z : decide (x = V.non) = false := decide_eq_false fun z => by
         have := hd.non_iff.mp z
         cases this
       rw [z]
       exact post ρ _ H .refl rl (.bl _))⟩
end
end Z
/-! Z4: one thing behind another; displays, tests, and, or, not, if. -/
namespace Z
open PySem PySem.Spec PyProof.Rows L2
/-- a wish of ends, closed under what may happen ahead -/
structure Lk {γ : Type} (K : PySem.W.Frag) (mg : Str → Option Value) (W : WX) (σ : L2.St) (ρ : Rho) (H : Hp) (P : Rho → Hp → γ → Prop) (fe : Exc → IH → γ) (st : γ) : Prop where
  ext : ∀ ρ1 H1 ρ' H' r, P ρ1 H1 r → Ext ρ1 H1 ρ' H' → P ρ' H' r
  exc : ∀ x h, P ρ H (fe x h) → ∀ ρ' cls od H', Ext ρ H ρ' H' → RelH K ρ' h H' → RepX K mg ρ' H' x cls od → W cls od σ H'
  stuck : ¬ P ρ H st
section
variable {K : PySem.W.Frag} {mg : Str → Option Value} {W : WX} {σ : L2.St} {ρ : Rho} {H : Hp}
theorem lkE {Q : VK} : Lk K mg W σ ρ H (fun ρ H r => PostE K mg W ρ σ H Q r) .exc .stuck := ⟨fun _ _ _ _ _ h x => h.ext x, fun _ _ h => h, fun h => h⟩
theorem lkT {Q : Bool → Hp → Prop} : Lk K mg W σ ρ H (fun ρ H r => PostT K mg W ρ σ H Q r) .exc .stuck := ⟨fun _ _ _ _ _ h x => h.ext x, fun _ _ h => h, fun h => h⟩
theorem lkA {Q : List V → Hp → Prop} : Lk K mg W σ ρ H (fun ρ H r => PostA K mg W ρ σ H Q r) .exc .stuck := ⟨fun _ _ _ _ _ h x => h.ext x, fun _ _ h => h, fun h => h⟩
theorem lkS {env : Ev} {ih : IH} {N : Ends} (rl : Rel K xp ρ env ih σ H) : Lk K mg W σ ρ H (fun ρ H r => PostS K mg W xp ρ H N r) (fun x h => .exc x env h) .stuck :=
  ⟨fun _ _ _ _ _ h x => h.ext x, fun _ _ h ρ' cls od H' x r q => h ρ' cls od σ H' x (rl.next x r) q, fun h => h⟩
theorem Lk.mono {γ : Type} {P : Rho → Hp → γ → Prop} {fe : Exc → IH → γ} {st : γ} (l : ∀ ρ H, Lk K mg W σ ρ H P fe st) : ∀ ρ H, Lk K mg W σ ρ H P fe st := l
end
section
variable {xp : Option XP} {X : Cx} {W : WX} {γ : Type} {P : Rho → Hp → γ → Prop} {fe : Exc → IH → γ} {st : γ} {ρ : Rho} {env : Ev} {ih : IH} {σ : L2.St} {H : Hp}
theorem fstE {ta : TE} {ma : ME} {f : D → IH → γ} {S : VK} (ha : ∀ ρ env ih σ H Q, Rel X.K xp ρ env ih σ H → PostE X.K X.mg W ρ σ H Q (ma env ih) → ta σ H Q) (rl : Rel X.K xp ρ env ih σ H)
    (l : Lk X.K X.mg W σ ρ H P fe st) (post : P ρ H ((ma env ih).bindG fe st f))
    (k : ∀ ρ1 d h1 v H1, Ext ρ H ρ1 H1 → RelH X.K ρ1 h1 H1 → RepV X.K ρ1 H1 d v → P ρ1 H1 (f d h1) → S v H1) : ta σ H S := by
  refine ha _ _ _ _ _ _ rl ?_
  revert post
  cases ma env ih with
  | ok x h1 => exact fun post ρ1 v H1 e1 r1 p1 => k ρ1 x h1 v H1 e1 r1 p1 (l.ext _ _ _ _ _ post e1)
  | exc x h => exact fun post => l.exc x h post
  | stuck => exact fun post => l.stuck post
theorem fstT {ta : TT} {ma : MT} {f : Bool → IH → γ} {S : Bool → Hp → Prop} (ha : ∀ ρ env ih σ H Q, Rel X.K xp ρ env ih σ H → PostT X.K X.mg W ρ σ H Q (ma env ih) → ta σ H Q) (rl : Rel X.K xp ρ env ih σ H)
    (l : Lk X.K X.mg W σ ρ H P fe st) (post : P ρ H ((ma env ih).bindG fe st f))
    (k : ∀ ρ1 b h1 H1, Ext ρ H ρ1 H1 → RelH X.K ρ1 h1 H1 → P ρ1 H1 (f b h1) → S b H1) : ta σ H S := by
  refine ha _ _ _ _ _ _ rl ?_
  revert post
  cases ma env ih with
  | ok x h1 => exact fun post ρ1 H1 e1 r1 => k ρ1 x h1 H1 e1 r1 (l.ext _ _ _ _ _ post e1)
  | exc x h => exact fun post => l.exc x h post
  | stuck => exact fun post => l.stuck post
theorem fstA {ta : TA} {ma : MA} {f : List D → IH → γ} {S : List V → Hp → Prop} (ha : ∀ ρ env ih σ H Q, Rel X.K xp ρ env ih σ H → PostA X.K X.mg W ρ σ H Q (ma env ih) → ta σ H Q) (rl : Rel X.K xp ρ env ih σ H)
    (l : Lk X.K X.mg W σ ρ H P fe st) (post : P ρ H ((ma env ih).bindG fe st f))
    (k : ∀ ρ1 ds h1 vs H1, Ext ρ H ρ1 H1 → RelH X.K ρ1 h1 H1 → RepL X.K ρ1 H1 ds vs → P ρ1 H1 (f ds h1) → S vs H1) : ta σ H S := by
  refine ha _ _ _ _ _ _ rl ?_
  revert post
  cases ma env ih with
  | ok x h1 => exact fun post ρ1 v H1 e1 r1 p1 => k ρ1 x h1 v H1 e1 r1 p1 (l.ext _ _ _ _ _ post e1)
  | exc x h => exact fun post => l.exc x h post
  | stuck => exact fun post => l.stuck post
end
section
variable {xp : Option XP} {X : Cx} {a b c : Expr} {ma mb mc : ME} {pos : Pos}
/-- two expressions, then an end -/
theorem bin2 {W : WX} {ta tb : TE} {m : MO} {S : V → V → Hp → Prop} {Q : VK}
    (ha : ∀ ρ env ih σ H Q, Rel X.K xp ρ env ih σ H → PostE X.K X.mg W ρ σ H Q (ma env ih) → ta σ H Q)
    (hb : ∀ ρ env ih σ H Q, Rel X.K xp ρ env ih σ H → PostE X.K X.mg W ρ σ H Q (mb env ih) → tb σ H Q)
    {ρ : Rho} {env : Ev} {ih : IH} {σ : L2.St} {H : Hp} (rl : Rel X.K xp ρ env ih σ H) (post : PostE X.K X.mg W ρ σ H Q (binM m ma mb env ih))
    (hr : ∀ ρ1 ih H1 d e x y, Ext ρ H ρ1 H1 → RelH X.K ρ1 ih H1 → RepV X.K ρ1 H1 d x → RepV X.K ρ1 H1 e y → PostE X.K X.mg W ρ1 σ H1 Q (m d e ih) → S x y H1) :
    ta σ H fun x H1 => tb σ H1 fun y H2 => S x y H2 := by
  refine fstE (ta := ta) ha rl (lkE (Q := Q)) post fun ρ1 d h1 v H1 e1 r1 p1 post => ?_
  exact fstE (ta := tb) hb (rl.next e1 r1) (lkE (Q := Q)) post fun ρ2 e h2 u H2 e2 r2 p2 post => hr ρ2 h2 H2 d e v u (e1.trans e2) r2 (p1.ext e2) p2 post
theorem s_bin {op : Operator} {m : MO} (o : SO X (binaryOp op) m) (A : SE xp X a ma) (B : SE xp X b mb) : SE xp X (.BinOp a op b pos) (binM m ma mb) := fun W tk => by
  obtain ⟨ta, pa, ha⟩ := A W tk
  obtain ⟨tb, pb, hb⟩ := B W tk
  obtain ⟨r, ho, hr⟩ := o
  exact ⟨_, pe_op ho pa pb, fun ρ env ih σ H Q rl post => bin2 ha hb rl post fun ρ1 ih1 H1 d e x y _ h1 h2 h3 => hr W ρ1 ih1 H1 σ Q d e x y h1 h2 h3⟩
theorem s_cmp {op : CmpOp} {m : MO} (o : SO X (compareOp op) m) (A : SE xp X a ma) (B : SE xp X b mb) (hm : behindInMarks op b = false := by first | exact nomark _ | rfl | with_unfolding_all rfl) : SE xp X (.Compare a [op] [b] pos) (binM m ma mb) := fun W tk => by
  obtain ⟨ta, pa, ha⟩ := A W tk
  obtain ⟨tb, pb, hb⟩ := B W tk
  obtain ⟨r, ho, hr⟩ := o
  exact ⟨_, pe_cmpR ho pa pb hm, fun ρ env ih σ H Q rl post => bin2 ha hb rl post fun ρ1 ih1 H1 d e x y _ h1 h2 h3 => hr W ρ1 ih1 H1 σ Q d e x y h1 h2 h3⟩
/-- a < b < c, behind a < b -/
def chain2 (o' : MO) (mc : ME) (env : Ev) (y : D) : D → IH → R D
  | .bl true, h => (mc env h).bind fun w h => o' y w h
  | .bl false, h => .ok (.bl false) h
  | _, _ => .stuck
def chainM (o o' : MO) (ma mb mc : ME) : ME := fun env h => (ma env h).bind fun x h => (mb env h).bind fun y h => (o x y h).bind fun z h => chain2 o' mc env y z h
end
section
variable {xp : Option XP} {X : Cx} {a b e : Expr} {es rest : List Expr} {ma mb : ME} {mt : MT} {ms : MA} {pos : Pos}
/-! ### argument lists, displays -/
def anilM : MA := fun _ h => .ok [] h
def aconsM (ma : ME) (ms : MA) : MA := fun env h => (ma env h).bind fun d h => (ms env h).bind fun ds h => .ok (d :: ds) h
theorem s_anil : SA xp X [] anilM := fun W tk => ⟨_, pa_nil, fun ρ env ih σ H Q rl post => post ρ [] H .refl rl.hp .nil⟩
theorem s_acons (A : SE xp X e ma) (B : SA xp X es ms) (hs : starEach (e :: es) X.env = (false, eval e X.env) :: starEach es X.env := by rfl) : SA xp X (e :: es) (aconsM ma ms) := fun W tk => by
  obtain ⟨ta, pa, ha⟩ := A W tk
  obtain ⟨tb, pb, hb⟩ := B W tk
  refine ⟨_, pa_cons pa pb hs, fun ρ env ih σ H Q rl post => ?_⟩
  refine fstE (ta := ta) ha rl (lkA (Q := Q)) post fun ρ1 d h1 v H1 e1 r1 p1 post => ?_
  exact fstA (ta := tb) hb (rl.next e1 r1) (lkA (Q := Q)) post fun ρ2 ds h2 vs H2 e2 r2 p2 post => post ρ2 _ H2 .refl r2 (.cons (p1.ext e2) p2)
def tupM (ms : MA) : ME := fun env h => (ms env h).bind fun ds h => if ds.length ≤ sizeLine then .ok (.tup ds) h else .stuck
def lstM (ms : MA) : ME := fun env h => (ms env h).bind fun ds h => if ds.length ≤ sizeLine then newL h ds else .stuck
theorem s_tup {p1 : Nat} (A : SA xp X es ms) : SE xp X (.Tuple es p1 pos) (tupM ms) := fun W tk => by
  obtain ⟨ta, pa, ha⟩ := A W tk
  refine ⟨_, pe_tup pa, fun ρ env ih σ H Q rl post => ?_⟩
  refine fstA (ta := ta) ha rl (lkE (Q := Q)) post fun ρ1 ds h1 vs H1 e1 r1 p1 post => ?_
  split at post
  · rename_i c
    exact ⟨by rw [← p1.length]; exact c, fun p hp => post ρ1 _ _ (Ext.fresh hp) (r1.aside hp) (.tup (SqT.of upd_same) (p1.ext (Ext.fresh hp)))⟩
  · exact post.elim
theorem s_lst (A : SA xp X es ms) : SE xp X (.List es pos) (lstM ms) := fun W tk => by
  obtain ⟨ta, pa, ha⟩ := A W tk
  refine ⟨_, pe_lst pa, fun ρ env ih σ H Q rl post => ?_⟩
  refine fstA (ta := ta) ha rl (lkE (Q := Q)) post fun ρ1 ds h1 vs H1 e1 r1 p1 post => ?_
  split at post
  · rename_i c
    refine ⟨by rw [← p1.length]; exact c, fun p hp => ?_⟩
    obtain ⟨ρ', x', rl', rv⟩ := alloc r1 hp p1
    exact post ρ' _ _ x' rl' rv
  · exact post.elim

/-! ### truth -/
def truB (h : IH) : D → Option Bool
  | .non => some false
  | .bl b => some b
  | .int i => some (i != 0)
  | .str x => if x.length ≤ sizeLine then some ((x.length : Int) != 0) else none
  | .tup ds => some (!ds.isEmpty)
  | .fz ds => some (!ds.isEmpty)
  | .ref n => match h[n]? with
    | some (.lst ds) => some (!ds.isEmpty)
    | _ => none
  | .xv => none
theorem RepL.isEmpty {K : PySem.W.Frag} {ρ : Rho} {ds : List D} {vs : List V} {H : Hp} (r : RepL K ρ H ds vs) : ds.isEmpty = vs.isEmpty := by cases r <;> rfl
theorem truV_of {K : PySem.W.Frag} {ρ : Rho} {H : Hp} {ih : IH} (rl : RelH K ρ ih H) {d : D} {v : V} {b : Bool} (q : truB ih d = some b) (r : RepV K ρ H d v) : TruV K v H b := by
  cases r with
  | non => cases q; rfl
  | bl c => cases q; rfl
  | int i => cases q; rfl
  | str x =>
    have q' : (if x.length ≤ sizeLine then some ((x.length : Int) != 0) else none) = some b := q
    split at q'
    · rename_i c
      cases q'
      exact ⟨c, rfl⟩
    · cases q'
  | tup h1 h2 =>
    cases q
    exact .inr (.inl ⟨_, h1, by rw [h2.isEmpty]⟩)
  | fz h1 h2 =>
    cases q
    exact .inl ⟨_, h1.sq, by rw [h2.isEmpty]⟩
  | @ref n a h1 =>
    have q' : (match ih[n]? with
      | some (.lst ds) => some (!ds.isEmpty)
      | _ => none) = some b := q
    split at q'
    · rename_i ds hn
      cases q'
      obtain ⟨vs, e, r⟩ := rl.lst h1 hn
      exact .inl ⟨vs, SqL.of e, by rw [r.isEmpty]⟩
    · cases q'
def testM (ma : ME) : MT := fun env h => (ma env h).bind fun d h => match truB h d with
  | some b => .ok b h
  | none => .stuck
theorem t_truth (A : SE xp X a ma) (he : ∀ whole, isTrue a X.env whole = (do let v ← whole; standAt a.pos; holding [v] (truthy v)) := by intro _; rfl) : ST xp X a (testM ma) := fun W tk => by
  obtain ⟨ta, pa, ha⟩ := A W tk
  refine ⟨_, pt_truth pa he, fun ρ env ih σ H Q rl post => ?_⟩
  refine fstE (ta := ta) ha rl (lkT (Q := Q)) post fun ρ1 d h1 v H1 e1 r1 p1 post => ?_
  split at post
  · rename_i b q
    exact ⟨b, truV_of r1 q p1, post ρ1 H1 .refl r1⟩
  · exact post.elim
def tnotM (mt : MT) : MT := fun env h => (mt env h).bind fun b h => .ok (!b) h
theorem t_not (A : ST xp X a mt) : ST xp X (.UnaryOp .Not a pos) (tnotM mt) := fun W tk => by
  obtain ⟨ta, pa, ha⟩ := A W tk
  refine ⟨_, pt_not pa, fun ρ env ih σ H Q rl post => ?_⟩
  exact fstT (ta := ta) ha rl (lkT (Q := Q)) post fun ρ1 b h1 H1 e1 r1 post => post ρ1 H1 .refl r1
def tandM (m1 m2 : MT) : MT := fun env h => (m1 env h).bind fun b h => if b = true then m2 env h else .ok false h
def torM (m1 m2 : MT) : MT := fun env h => (m1 env h).bind fun b h => if b = true then .ok true h else m2 env h
theorem w_and1 (A : ST xp X a mt) : SW xp X (.BoolOp .And [a] pos) mt := fun W tk => by
  obtain ⟨ta, pa, ha⟩ := A W tk
  exact ⟨_, pw_and1 pa, ha⟩
theorem w_or1 (A : ST xp X a mt) : SW xp X (.BoolOp .Or [a] pos) mt := fun W tk => by
  obtain ⟨ta, pa, ha⟩ := A W tk
  exact ⟨_, pw_or1 pa, ha⟩
variable {m1 m2 : MT}
theorem w_and (A : ST xp X a m1) (B : SW xp X (.BoolOp .And (b :: rest) pos) m2) : SW xp X (.BoolOp .And (a :: b :: rest) pos) (tandM m1 m2) := fun W tk => by
  obtain ⟨ta, pa, ha⟩ := A W tk
  obtain ⟨tb, pb, hb⟩ := B W tk
  refine ⟨_, pw_and pa pb, fun ρ env ih σ H Q rl post => ?_⟩
  refine fstT (ta := ta) ha rl (lkT (Q := Q)) post fun ρ1 b h1 H1 e1 r1 post => ?_
  cases b with
  | true => exact hb _ _ _ _ _ _ (rl.next e1 r1) post
  | false => exact post ρ1 H1 .refl r1
theorem w_or (A : ST xp X a m1) (B : SW xp X (.BoolOp .Or (b :: rest) pos) m2) : SW xp X (.BoolOp .Or (a :: b :: rest) pos) (torM m1 m2) := fun W tk => by
  obtain ⟨ta, pa, ha⟩ := A W tk
  obtain ⟨tb, pb, hb⟩ := B W tk
  refine ⟨_, pw_or pa pb, fun ρ env ih σ H Q rl post => ?_⟩
  refine fstT (ta := ta) ha rl (lkT (Q := Q)) post fun ρ1 b h1 H1 e1 r1 post => ?_
  cases b with
  | true => exact post ρ1 H1 .refl r1
  | false => exact hb _ _ _ _ _ _ (rl.next e1 r1) post
theorem t_of_w (A : SW xp X a mt) : ST xp X a mt := fun W tk => by
  obtain ⟨ta, pa, ha⟩ := A W tk
  exact ⟨_, pa.pt, ha⟩

/-! ### and, or, not as values -/
def andM (ma mb : ME) : ME := fun env h => (ma env h).bind fun d h => match truB h d with
  | some true => mb env h
  | some false => .ok d h
  | none => .stuck
def orM (ma mb : ME) : ME := fun env h => (ma env h).bind fun d h => match truB h d with
  | some true => .ok d h
  | some false => mb env h
  | none => .stuck
def notM (ma : ME) : ME := fun env h => (ma env h).bind fun d h => match truB h d with
  | some b => .ok (.bl (!b)) h
  | none => .stuck
theorem s_one {op : BoolOp} (A : SE xp X a ma) : SE xp X (.BoolOp op [a] pos) ma := fun W tk => by
  obtain ⟨ta, pa, ha⟩ := A W tk
  exact ⟨_, pe_one pa, ha⟩
theorem s_and (A : SE xp X a ma) (B : SE xp X (.BoolOp .And (b :: rest) pos) mb) : SE xp X (.BoolOp .And (a :: b :: rest) pos) (andM ma mb) := fun W tk => by
  obtain ⟨ta, pa, ha⟩ := A W tk
  obtain ⟨tb, pb, hb⟩ := B W tk
  refine ⟨_, pe_andT pa pb, fun ρ env ih σ H Q rl post => ?_⟩
  refine fstE (ta := ta) ha rl (lkE (Q := Q)) post fun ρ1 d h1 v H1 e1 r1 p1 post => ?_
  split at post
  · rename_i q
    exact ⟨true, truV_of r1 q p1, hb _ _ _ _ _ _ (rl.next e1 r1) post⟩
  · rename_i q
    exact ⟨false, truV_of r1 q p1, post ρ1 v H1 .refl r1 p1⟩
  · exact post.elim
theorem s_not (A : SE xp X a ma) : SE xp X (.UnaryOp .Not a pos) (notM ma) := fun W tk => by
  obtain ⟨ta, pa, ha⟩ := A W tk
  refine ⟨_, pe_notT pa, fun ρ env ih σ H Q rl post => ?_⟩
  refine fstE (ta := ta) ha rl (lkE (Q := Q)) post fun ρ1 d h1 v H1 e1 r1 p1 post => ?_
  split at post
  · rename_i b q
    exact ⟨b, truV_of r1 q p1, post ρ1 _ H1 .refl r1 (.bl _)⟩
  · exact post.elim
def iteM (mt : MT) (ma mb : ME) : ME := fun env h => (mt env h).bind fun b h => if b = true then ma env h else mb env h
theorem s_if {c : Expr} (C : ST xp X c mt) (A : SE xp X a ma) (B : SE xp X b mb) : SE xp X (.IfExp c a b pos) (iteM mt ma mb) := fun W tk => by
  obtain ⟨tc, pc, hc⟩ := C W tk
  obtain ⟨ta, pa, ha⟩ := A W tk
  obtain ⟨tb, pb, hb⟩ := B W tk
  refine ⟨_, pe_ifExp pc pa pb, fun ρ env ih σ H Q rl post => ?_⟩
  refine fstT (ta := tc) hc rl (lkE (Q := Q)) post fun ρ1 b h1 H1 e1 r1 post => ?_
  cases b with
  | true => exact ha _ _ _ _ _ _ (rl.next e1 r1) post
  | false => exact hb _ _ _ _ _ _ (rl.next e1 r1) post
def negM (ma : ME) : ME := fun env h => (ma env h).bind fun d h => match d with
  | .int i => .ok (.int (-i)) h
  | _ => .stuck
theorem s_neg (A : SE xp X a ma) : SE xp X (.UnaryOp .USub a pos) (negM ma) := fun W tk => by
  obtain ⟨ta, pa, ha⟩ := A W tk
  refine ⟨_, pe_un un_neg pa, fun ρ env ih σ H Q rl post => ?_⟩
  refine fstE (ta := ta) ha rl (lkE (Q := Q)) post fun ρ1 d h1 v H1 e1 r1 p1 post => ?_
  split at post
  · cases p1
    exact ⟨_, rfl, post ρ1 _ H1 .refl r1 (.int _)⟩
  · exact post.elim
/-! comparisons as tests -/
def btestM (ma : ME) : MT := fun env h => (ma env h).bind fun d h => match d with
  | .bl b => .ok b h
  | _ => .stuck
variable {c : Expr} {mc : ME}
theorem post_bt {K : PySem.W.Frag} {mg : Str → Option Value} {W : WX} {ρ : Rho} {σ : L2.St} {H : Hp} {Q : Bool → Hp → Prop} {r : R D} (post : PostT K mg W ρ σ H Q (r.bind fun d h => match d with
    | .bl b => .ok b h
    | _ => .stuck)) : PostE K mg W ρ σ H (fun x H' => ∃ k, x = .bl k ∧ Q k H') r := by
  cases r with
  | ok d h =>
    intro ρ' v H' x rl rv
    cases d with
    | bl b => cases rv; exact ⟨b, rfl, post ρ' H' x rl⟩
    | _ => exact post.elim
  | exc x h => exact post
  | stuck => exact post
theorem t_cmp {op : CmpOp} {m : MO} (o : SO X (compareOp op) m) (A : SE xp X a ma) (B : SE xp X b mb) (hm : behindInMarks op b = false := by first | exact nomark _ | rfl | with_unfolding_all rfl) : ST xp X (.Compare a [op] [b] pos) (btestM (binM m ma mb)) := fun W tk => by
  obtain ⟨ta, pa, ha⟩ := A W tk
  obtain ⟨tb, pb, hb⟩ := B W tk
  obtain ⟨r, ho, hr⟩ := o
  exact ⟨_, pt_cmpR ho pa pb hm, fun ρ env ih σ H Q rl post => bin2 (ta := ta) (tb := tb) ha hb rl (post_bt post) fun ρ1 ih1 H1 d e x y _ h1 h2 h3 => hr W ρ1 ih1 H1 σ _ d e x y h1 h2 h3⟩
end
end Z
/-! Z5: calls; what a def does; statements. -/
namespace Z
open PySem PySem.Spec PyProof.Rows L2

/-! ### references below a number -/
mutual
def D.lt (n : Nat) : D → Bool
  | .tup xs => D.ltL n xs
  | .fz xs => D.ltL n xs
  | .ref k => decide (k < n)
  | _ => true
def D.ltL (n : Nat) : List D → Bool
  | [] => true
  | d :: ds => D.lt n d && D.ltL n ds
end
section
variable {K : PySem.W.Frag} {ρ ρ' : Rho} {H H' : Hp}
mutual
theorem RepV.lt : ∀ {d : D} {v : V}, RepV K ρ H d v → d.lt ρ.as.length = true
  | .non, _, _ => rfl
  | .bl _, _, _ => rfl
  | .int _, _, _ => rfl
  | .str _, _, _ => rfl
  | .tup _, _, .tup _ h => RepL.lt h
  | .ref _, _, .ref h => decide_eq_true (List.getElem?_eq_some_iff.mp h).1
  | .fz _, _, .fz _ h => RepL.lt h
  | .xv, _, _ => rfl
theorem RepL.lt : ∀ {ds : List D} {vs : List V}, RepL K ρ H ds vs → D.ltL ρ.as.length ds = true
  | [], _, _ => rfl
  | _ :: _, _, .cons h t => by
    show (_ && _) = true
    rw [RepV.lt h, RepL.lt t]; rfl
end
mutual
theorem RepV.back (p : ρ.as <+: ρ'.as) : ∀ {d : D} {v : V}, RepV K ρ' H' d v → d.lt ρ.as.length = true → RepV K ρ H' d v
  | .non, _, .non, _ => .non
  | .bl _, _, .bl _, _ => .bl _
  | .int _, _, .int _, _ => .int _
  | .str _, _, .str _, _ => .str _
  | .tup _, _, .tup h1 h2, l => .tup h1 (RepL.back p h2 l)
  | .ref n, _, .ref h, l => by
    have hn : n < ρ.as.length := of_decide_eq_true l
    obtain ⟨t, e⟩ := p
    rw [← e, List.getElem?_append_left hn] at h
    exact .ref h
  | .fz _, _, .fz h1 h2, l => .fz h1 (RepL.back p h2 l)
theorem RepL.back (p : ρ.as <+: ρ'.as) : ∀ {ds : List D} {vs : List V}, RepL K ρ' H' ds vs → D.ltL ρ.as.length ds = true → RepL K ρ H' ds vs
  | [], _, .nil, _ => .nil
  | _ :: _, _, .cons h t, l => by
    have l' : (_ && _) = true := l
    rw [Bool.and_eq_true] at l'
    exact .cons (RepV.back p h l'.1) (RepL.back p t l'.2)
end
end
/-- what a def leaves that nobody can reach is forgotten -/
def Exc.lt (n : Nat) (x : Exc) : Bool := x.fs.all fun p => p.2.lt n
open Classical in
noncomputable def trunc (h : IH) : R D → R D
  | .ok d h' => if d.lt h.length = true ∧ h'.take h.length = h then .ok d h else .ok d h'
  | .exc x h' => if x.lt h.length = true ∧ h'.take h.length = h then .exc x h else .exc x h'
  | .stuck => .stuck
section
variable {K : PySem.W.Frag} {mg : Str → Option Value} {W : WX} {ρ ρ' : Rho} {σ : L2.St} {H H' : Hp} {ih ih' : IH}
theorem Ext.short (x : Ext ρ H ρ' H') : Ext ρ H ρ H' := ⟨List.prefix_refl _, fun _ z => .inl z, x.keep, x.tups, x.frzs, x.xds⟩
theorem RepF.back (p : ρ.as <+: ρ'.as) : ∀ {fs : List (Str × D)} {vs : List (Str × V)}, RepF K ρ' H' fs vs → (fs.all fun p => p.2.lt ρ.as.length) = true → RepF K ρ H' fs vs
  | _, _, .nil, _ => .nil
  | _, _, .cons r t, l => by
    rw [List.all_cons, Bool.and_eq_true] at l
    exact .cons (r.back p l.1) (RepF.back p t l.2)
theorem RepF.lt : ∀ {fs : List (Str × D)} {vs : List (Str × V)}, RepF K ρ H fs vs → (fs.all fun p => p.2.lt ρ.as.length) = true
  | _, _, .nil => rfl
  | _, _, .cons r t => by
    rw [List.all_cons, Bool.and_eq_true]
    exact ⟨r.lt, RepF.lt t⟩
theorem RepK.back (p : ρ.as <+: ρ'.as) : ∀ {fs : List (L2.Key × D)} {vs : List (L2.Key × V)}, RepK K ρ' H' fs vs → (fs.all fun p => p.2.lt ρ.as.length) = true → RepK K ρ H' fs vs
  | _, _, .nil, _ => .nil
  | _, _, .cons r t, l => by
    rw [List.all_cons, Bool.and_eq_true] at l
    exact .cons (r.back p l.1) (RepK.back p t l.2)
theorem RepK.lt : ∀ {fs : List (L2.Key × D)} {vs : List (L2.Key × V)}, RepK K ρ H fs vs → (fs.all fun p => p.2.lt ρ.as.length) = true
  | _, _, .nil => rfl
  | _, _, .cons r t => by
    rw [List.all_cons, Bool.and_eq_true]
    exact ⟨r.lt, RepK.lt t⟩
theorem RepT.back (p : ρ.as <+: ρ'.as) : ∀ {fs : List (List Int × D)} {vs : List (List Int × Addr × Value)}, RepT K ρ' H' fs vs → (fs.all fun p => p.2.lt ρ.as.length) = true → RepT K ρ H' fs vs
  | _, _, .nil, _ => .nil
  | _, _, .cons a r u t, l => by
    rw [List.all_cons, Bool.and_eq_true] at l
    exact .cons a (r.back p l.1) u (RepT.back p t l.2)
theorem RepT.lt : ∀ {fs : List (List Int × D)} {vs : List (List Int × Addr × Value)}, RepT K ρ H fs vs → (fs.all fun p => p.2.lt ρ.as.length) = true
  | _, _, .nil => rfl
  | _, _, .cons _ r _ t => by
    rw [List.all_cons, Bool.and_eq_true]
    exact ⟨r.lt, RepT.lt t⟩
theorem RepN.back (p : ρ.as <+: ρ'.as) : ∀ {fs : List (NestedKey × D)} {vs : List (NestedKey × Addr × Value)}, RepN K ρ' H' fs vs → (fs.all fun p => p.2.lt ρ.as.length) = true → RepN K ρ H' fs vs
  | _, _, .nil, _ => .nil
  | _, _, .cons a r u t, l => by
    rw [List.all_cons, Bool.and_eq_true] at l
    exact .cons a (r.back p l.1) u (RepN.back p t l.2)
theorem RepN.lt : ∀ {fs : List (NestedKey × D)} {vs : List (NestedKey × Addr × Value)}, RepN K ρ H fs vs → (fs.all fun p => p.2.lt ρ.as.length) = true
  | _, _, .nil => rfl
  | _, _, .cons _ r _ t => by
    rw [List.all_cons, Bool.and_eq_true]
    exact ⟨r.lt, RepN.lt t⟩
theorem RelH.short (r : RelH K ρ ih H) (x : Ext ρ H ρ' H') (r' : RelH K ρ' ih' H') (e : ih'.take ih.length = ih) : RelH K ρ ih H' := by
  refine ⟨r.len, r.nd, fun n a o h1 h2 => ?_⟩
  have hn : n < ih.length := (List.getElem?_eq_some_iff.mp h2).1
  have h2' : ih'[n]? = some o := by
    rw [← e, List.getElem?_take] at h2
    simpa [hn] using h2
  have q' := r'.obj n a o (x.get h1) h2'
  have q := r.obj n a o h1 h2
  cases o with
  | lst ds =>
    obtain ⟨vs, e1, r1⟩ := q'
    obtain ⟨us, _, r2⟩ := q
    exact ⟨vs, e1, r1.back x.pre r2.lt⟩
  | dik kvs =>
    obtain ⟨m, e1, r1⟩ := q'
    obtain ⟨_, _, r2⟩ := q
    exact ⟨m, e1, r1.back x.pre r2.lt⟩
  | dit kvs =>
    obtain ⟨ob, m, e1, t1, r1⟩ := q'
    obtain ⟨_, _, _, _, r2⟩ := q
    exact ⟨ob, m, e1, t1, r1.back x.pre r2.lt⟩
  | dig kvs =>
    obtain ⟨ob, m, e1, t1, r1⟩ := q'
    obtain ⟨_, _, _, _, r2⟩ := q
    exact ⟨ob, m, e1, t1, r1.back x.pre r2.lt⟩
  | ins c fs =>
    obtain ⟨dx, vs, e1, r1⟩ := q'
    obtain ⟨_, us, _, r2⟩ := q
    exact ⟨dx, vs, e1, r1.back x.pre r2.lt⟩
open Classical in
theorem trunc_post {Q : VK} (rl : RelH K ρ ih H) : ∀ {r : R D}, PostE K mg W ρ σ H Q (trunc ih r) → PostE K mg W ρ σ H Q r
  | .ok d h', post => fun ρ' v H' x r' rv => by
    have post : PostE K mg W ρ σ H Q (if d.lt ih.length = true ∧ h'.take ih.length = ih then .ok d ih else .ok d h') := post
    split at post
    · rename_i c
      exact post ρ v H' x.short (rl.short x r' c.2) (rv.back x.pre (by rw [rl.len]; exact c.1))
    · exact post ρ' v H' x r' rv
  | .exc y h', post => fun ρ' cls od H' x r' rx => by
    have post : PostE K mg W ρ σ H Q (if y.lt ih.length = true ∧ h'.take ih.length = ih then .exc y ih else .exc y h') := post
    split at post
    · rename_i c
      refine post ρ cls od H' x.short (rl.short x r' c.2) ?_
      obtain ⟨d, vs, e2, e3, e4, e5⟩ := rx
      exact ⟨d, vs, e2, e3, e4, e5.back x.pre (by rw [rl.len]; exact c.1)⟩
    · exact post ρ' cls od H' x r' rx
  | .stuck, post => post
end

/-! ### defs -/
abbrev MF := List D → IH → R D
/-- a def's promise -/
def spF (K : PySem.W.Frag) (mg : Str → Option Value) (n : Nat) (F : MF) : Sp := fun vs H Q E => vs.length = n ∧ ∃ ρ ds ih, RelH K ρ ih H ∧ RepL K ρ H ds vs ∧ PostE K mg (fun cls od _ H => E cls od H) ρ [] H Q (F ds ih)
theorem PostE.slot {K : PySem.W.Frag} {mg : Str → Option Value} {E : XK} {ρ : Rho} {σ σ' : L2.St} {H : Hp} {Q : VK} : ∀ {r : R D}, PostE K mg (fun cls od _ H => E cls od H) ρ σ H Q r → PostE K mg (fun cls od _ H => E cls od H) ρ σ' H Q r
  | .ok _ _, h => h
  | .exc _ _, h => h
  | .stuck, h => h
/-- the def named x does F, for n arguments, in k levels -/
structure FS (P : Program) (w : World) (K : PySem.W.Frag) (mg : Str → Option Value) (base : Heap) (x : Str) (k n : Nat) (F : MF) : Prop where
  ex : ∃ (f : Addr) (fd : FuncData) (ps : List Str), mg x = some (.ref f) ∧ PySem.W.keepIn K (.ref f) = true ∧ Binds K fd ps [] ∧ FnOk P w K mg base (L2.CX P w) k f fd ps (spF K mg n F)
def callM (F : MF) (ms : MA) : ME := fun env h => (ms env h).bind fun ds h => F ds h
section
variable {xp : Option XP} {X : Cx} {e : Expr} {es : List Expr} {x : Str} {k j n : Nat} {F : MF} {ms : MA} {p pos : Pos}
theorem s_call (f : FS X.prog X.w X.K X.mg X.base x k n F) (hr : Room j X.A) (hk : k ≤ j) (hg : Gl X x) (hl : (e :: es).length = n) (A : SA xp X (e :: es) ms)
    (hdb : (x == ("__debug__" : Str)) = false := by decide) (he : starEach (e :: es) X.env = (false, eval e X.env) :: starEach es X.env := by rfl) (hpl : (backTo pos (starEach es X.env)).any (·.1) = false := by rfl)
    (hml : ∀ env h ds h', ms env h = .ok ds h' → ds.length = (e :: es).length) : SE xp X (.Call (.Name x p) (e :: es) [] pos) (callM F ms) := fun W tk => by
  obtain ⟨ta, pa, ha⟩ := A W tk
  obtain ⟨fa, fd, ps, hm, hkp, hb, hF⟩ := f.ex
  refine ⟨_, pe_callS hF (hr.mono hk) hg hm hkp hb (fun σ => passAt tk σ) pa hdb he hpl, fun ρ env ih σ H Q rl post => ?_⟩
  have post : PostE X.K X.mg W ρ σ H Q ((ms env ih).bind fun ds h => F ds h) := post
  have hml := hml env ih
  revert post
  cases q : ms env ih with
  | ok ds h1 =>
    intro post
    refine ha ρ env ih σ H _ rl ?_
    rw [q]
    intro ρ1 vs H1 e1 r1 p1
    refine ⟨by rw [← p1.length, hml ds h1 q]; exact hl, ρ1, ds, h1, r1, p1, ?_⟩
    have post : PostE X.K X.mg W ρ1 σ H1 Q (F ds h1) := PostE.ext post e1
    revert post
    cases F ds h1 with
    | ok d h => exact fun post => post
    | exc x h => exact fun post => post
    | stuck => exact fun post => post
  | exc x h =>
    intro post
    refine ha ρ env ih σ H _ rl ?_
    rw [q]
    exact post
  | stuck => exact fun post => post.elim
end

/-! ### statements -/
section
variable {xp : Option XP} {X : Cx} {e : Expr} {st : Stmt} {rest a b : List Stmt} {ma : ME} {mt : MT} {m m1 m2 : MS} {pos : Pos}
def seqM (m1 m2 : MS) : MS := fun env h => match m1 env h with
  | .nx e h => m2 e h
  | .rt d h => .rt d h
  | .bk e h => .bk e h
  | .ct e h => .ct e h
  | .exc x e h => .exc x e h
  | .stuck => .stuck
def nextM : MS := fun env h => .nx env h
def brkM : MS := fun env h => .bk env h
def contM : MS := fun env h => .ct env h
theorem ss_nil : SSs xp X [] nextM := fun W tk => ⟨_, pss_nil, fun ρ env ih σ H N rl post => post ρ σ H .refl rl⟩
theorem ss_one (A : SS xp X st m) : SSs xp X [st] m := fun W tk => by
  obtain ⟨ta, pa, ha⟩ := A W tk
  exact ⟨_, pss_one pa, ha⟩
theorem ss_cons (A : SS xp X st m1) (B : SSs xp X rest m2) : SSs xp X (st :: rest) (seqM m1 m2) := fun W tk => by
  obtain ⟨ta, pa, ha⟩ := A W tk
  obtain ⟨tb, pb, hb⟩ := B W tk
  refine ⟨_, pss_cons pa pb, fun ρ env ih σ H N rl post => ?_⟩
  show ta { N with nx := tb N } σ H
  refine ha _ _ _ _ _ _ rl ?_
  revert post
  unfold seqM
  cases m1 env ih with
  | nx e1 h1 => exact fun post ρ1 σ1 H1 x1 r1 => hb _ _ _ _ _ _ r1 (PostS.ext post x1)
  | rt d h => exact fun post => post
  | bk e h => exact fun post => post
  | ct e h => exact fun post => post
  | exc x e h => exact fun post => post
  | stuck => exact fun post => post
theorem st_break : SS xp X (.Break pos) brkM := fun W tk => ⟨_, ps_break, fun ρ env ih σ H N rl post => post ρ σ H .refl rl⟩
def exprM (ma : ME) : MS := fun env h => (ma env h).thenS env fun _ h => .nx env h
def retM (ma : ME) : MS := fun env h => (ma env h).thenS env fun d h => .rt d h
theorem st_expr (A : SE xp X e ma) (hs : swapsWith e none pos.line X.env = pure false := by rfl) : SS xp X (.Expr e pos) (exprM ma) := fun W tk => by
  obtain ⟨ta, pa, ha⟩ := A W tk
  refine ⟨_, ps_expr pa hs, fun ρ env ih σ H N rl post => ?_⟩
  exact fstE (ta := ta) ha rl (lkS (N := N) rl) post fun ρ1 d h1 v H1 e1 r1 p1 post => post ρ1 σ H1 .refl (rl.next e1 r1)
theorem st_ret (A : SE xp X e ma) : SS xp X (.Return (some e) pos) (retM ma) := fun W tk => by
  obtain ⟨ta, pa, ha⟩ := A W tk
  refine ⟨_, ps_ret pa, fun ρ env ih σ H N rl post => ?_⟩
  exact fstE (ta := ta) ha rl (lkS (N := N) rl) post fun ρ1 d h1 v H1 e1 r1 p1 post => post ρ1 v H1 .refl r1 p1
def retNM : MS := fun _ h => .rt .non h
def ifM (mt : MT) (m1 m2 : MS) : MS := fun env h => (mt env h).thenS env fun b h => if b = true then m1 env h else m2 env h
theorem st_if {c : Expr} (C : ST xp X c mt) (A : SSs xp X a m1) (B : SSs xp X b m2) : SS xp X (.If c a b pos) (ifM mt m1 m2) := fun W tk => by
  obtain ⟨tc, pc, hc⟩ := C W tk
  obtain ⟨ta, pa, ha⟩ := A W tk
  obtain ⟨tb, pb, hb⟩ := B W tk
  refine ⟨_, ps_if pc pa pb, fun ρ env ih σ H N rl post => ?_⟩
  refine fstT (ta := tc) hc rl (lkS (N := N) rl) post fun ρ1 b h1 H1 e1 r1 post => ?_
  cases b with
  | true => exact ha _ _ _ _ _ _ (rl.next e1 r1) post
  | false => exact hb _ _ _ _ _ _ (rl.next e1 r1) post
/-! assignments -/
/-- a target of names: what it makes of the slots -/
abbrev MG := D → Ev → Option Ev
def SG (xp : Option XP) (X : Cx) (tg : Expr) (g : MG) : Prop := ∃ t, PG X tg t ∧ ∀ ρ env ih σ H Q d v env', Rel X.K xp ρ env ih σ H → RepV X.K ρ H d v → g d env = some env' → (∀ σ', Rel X.K xp ρ env' ih σ' H → Q σ' H) → t v σ H Q
def gnameM (i : Nat) : MG := fun d env => some (env.set i (some d))
theorem sg_name {i : Nat} {x : Str} (h : PG X (.Name x pos) (gName i)) : SG xp X (.Name x pos) (gnameM i) := ⟨_, h, fun ρ env ih σ H Q d v env' rl rv e q => by
  cases e
  exact q _ (rl.set i rv)⟩
abbrev MGs := List D → Ev → Option Ev
def SGs (xp : Option XP) (X : Cx) (tgs : List Expr) (g : MGs) : Prop := ∃ t, PGs X tgs t ∧ ∀ ρ env ih σ H Q ds vs env', Rel X.K xp ρ env ih σ H → RepL X.K ρ H ds vs → g ds env = some env' → (∀ σ', Rel X.K xp ρ env' ih σ' H → Q σ' H) → t vs σ H Q
def gnilM : MGs := fun ds env => match ds with
  | [] => some env
  | _ => none
def gconsM (g : MG) (gs : MGs) : MGs := fun ds env => match ds with
  | d :: ds => (g d env).bind fun env => gs ds env
  | _ => none
theorem sgs_nil : SGs xp X [] gnilM := ⟨_, pgs_nil, fun ρ env ih σ H Q ds vs env' rl rv e q => by
  cases rv with
  | nil => cases e; exact ⟨rfl, q σ rl⟩
  | cons _ _ => cases e⟩
end
end Z
/-! Z6: assignments, loops. -/
namespace Z
open PySem PySem.Spec PyProof.Rows L2
section
variable {xp : Option XP} {X : Cx} {e : Expr} {st : Stmt} {rest a b : List Stmt} {ma : ME} {mt : MT} {m m1 m2 : MS} {pos : Pos}
theorem sgs_cons {t : Expr} {ts : List Expr} {g : MG} {gs : MGs} (A : SG xp X t g) (B : SGs xp X ts gs) (hs : (assignEach (t :: ts) X.env).map (·.2) = assign t X.env :: (assignEach ts X.env).map (·.2) := by rfl) : SGs xp X (t :: ts) (gconsM g gs) := by
  obtain ⟨ta, pa, ha⟩ := A
  obtain ⟨tb, pb, hb⟩ := B
  refine ⟨_, pgs_cons pa pb hs, fun ρ env ih σ H Q ds vs env' rl rv e q => ?_⟩
  cases rv with
  | nil => cases e
  | cons r t =>
    obtain ⟨env1, e1, e2⟩ := Option.bind_eq_some_iff.mp e
    exact ⟨_, _, rfl, ha ρ env ih σ H _ _ _ env1 rl r e1 fun σ1 r1 => hb ρ env1 ih σ1 H Q _ _ env' r1 t e2 q⟩
def gtupM (n : Nat) (gs : MGs) : MG := fun d env => match d with
  | .tup ds => if ds.length = n then gs ds env else none
  | _ => none
theorem sg_tup {es : List Expr} {k n : Nat} {gs : MGs} (hc : X.calm = true) (h : SGs xp X es gs) (hn : (assignEach es X.env).length = n := by rfl) (hst : (assignEach es X.env).findIdx? (·.1) = none := by rfl) : SG xp X (.Tuple es k pos) (gtupM n gs) := by
  obtain ⟨ta, pa, ha⟩ := h
  refine ⟨_, pg_tup hc pa hn hst, fun ρ env ih σ H Q d v env' rl rv e q => ?_⟩
  cases rv with
  | tup h1 h2 =>
    have e : (if _ then _ else _) = some env' := e
    split at e
    · rename_i c
      exact ⟨_, _, rfl, h1, by rw [← h2.length]; exact c, ha ρ env ih σ H Q _ _ env' rl h2 e q⟩
    · cases e
  | _ => cases e
/-- name = e -/
def setM (i : Nat) (ma : ME) : MS := fun env h => (ma env h).thenS env fun d h => .nx (env.set i (some d)) h
theorem st_set {i : Nat} {x : Str} {pos' : Pos} (hN : X.N.Nodup) (hi : X.N[i]? = some x) (hx : Loc X.env.scope x) (A : SE xp X e ma) (hs : swapsWith e (some (.Name x pos')) pos.line X.env = pure false := by rfl)
    (hf : X.fn x = true ∨ X.env.scope.names.lookup x = some .local := by first | exact .inl rfl | exact .inr rfl | assumption) : SS xp X (.Assign [.Name x pos'] e pos) (setM i ma) := fun W tk => by
  obtain ⟨ta, pa, ha⟩ := A W tk
  refine ⟨_, ps_set (i := i) hN hi hx pa hs hf, fun ρ env ih σ H N rl post => ?_⟩
  exact fstE (ta := ta) ha rl (lkS (N := N) rl) post fun ρ1 d h1 v H1 e1 r1 p1 post => post ρ1 _ H1 .refl ((rl.next e1 r1).set i p1)
/-- target = e -/
def asgM (g : MG) (ma : ME) : MS := fun env h => (ma env h).thenS env fun d h => match g d env with
  | some env => .nx env h
  | none => .stuck
theorem st_asg {tg : Expr} {g : MG} (A : SE xp X e ma) (G : SG xp X tg g) (hs : swapsWithSole [tg] e pos.line X.env = pure false := by rfl) (hw : swappedStores [tg] e X.env = pure none := by rfl)
    (h1 : (assignEach [tg] X.env).map (·.2) = [assign tg X.env] := by rfl) : SS xp X (.Assign [tg] e pos) (asgM g ma) := fun W tk => by
  obtain ⟨ta, pa, ha⟩ := A W tk
  obtain ⟨tg, pg, hg⟩ := G
  refine ⟨_, ps_asg pa pg hs hw h1, fun ρ env ih σ H N rl post => ?_⟩
  refine fstE (ta := ta) ha rl (lkS (N := N) rl) post fun ρ1 d h1 v H1 e1 r1 p1 post => ?_
  split at post
  · rename_i env' q
    exact hg ρ1 env h1 σ H1 _ d v env' (rl.next e1 r1) p1 q fun σ' r' => post ρ1 σ' H1 .refl r'
  · exact post.elim
/-- a, b = x, y -/
def parM (i j : Nat) (ms : MA) : MS := fun env h => (ms env h).thenS env fun ds h => match ds with
  | [d, e] => .nx ((env.set i (some d)).set j (some e)) h
  | _ => .stuck
theorem st_par {i j : Nat} {x y : Str} {a b : Expr} {ms : MA} {px py pt : Pos} {kt k2 pt2} (hc : X.calm = true) (hN : X.N.Nodup) (hi : X.N[i]? = some x) (hj : X.N[j]? = some y) (hij : i ≠ j)
    (hx : X.env.scope.names.lookup x = some .local) (hy : X.env.scope.names.lookup y = some .local) (A : SA xp X [a, b] ms)
    (hw : swappedStores [.Tuple [.Name x px, .Name y py] kt pt] (.Tuple [a, b] k2 pt2) X.env = pure (some [x, y]))
    (hs : swapsWithSole [.Tuple [.Name x px, .Name y py] kt pt] (.Tuple [a, b] k2 pt2) pos.line X.env = pure false := by rfl) :
    SS xp X (.Assign [.Tuple [.Name x px, .Name y py] kt pt] (.Tuple [a, b] k2 pt2) pos) (parM i j ms) := fun W tk => by
  obtain ⟨ta, pa, ha⟩ := A W tk
  refine ⟨_, ps_par hc hN hi hj hij hx hy pa hw hs, fun ρ env ih σ H N rl post => ?_⟩
  refine fstA (ta := ta) ha rl (lkS (N := N) rl) post fun ρ1 ds h1 vs H1 e1 r1 p1 post => ?_
  split at post
  · cases p1 with
    | cons q1 t =>
      cases t with
      | cons q2 t =>
        cases t
        exact ⟨_, _, rfl, post ρ1 _ H1 .refl (((rl.next e1 r1).set i q1).set j q2)⟩
  · exact post.elim
/-- o[i] = e -/
abbrev MP := D → D → D → IH → Option IH
def SP' (X : Cx) (m : MP) : Prop := ∃ t, PSet X t ∧ ∀ ρ ih ih' H Q o i d x y v, RelH X.K ρ ih H → RepV X.K ρ H o x → RepV X.K ρ H i y → RepV X.K ρ H d v → m o i d ih = some ih' → (∀ H', Ext ρ H ρ H' → RelH X.K ρ ih' H' → Q H') → t x y v H Q
def putM (p : MP) (mo mi ma : ME) : MS := fun env h => (ma env h).thenS env fun d h => (mo env h).thenS env fun o h => (mi env h).thenS env fun i h => match p o i d h with
  | some h => .nx env h
  | none => .stuck
theorem st_put {o i : Expr} {mo mi : ME} {p : MP} {pos' : Pos} (P : SP' X p) (O : SE xp X o mo) (I : SE xp X i mi) (A : SE xp X e ma)
    (ha : ∀ v, assign (.Subscript o i pos') X.env v = (do
      let ov ← holding [v] (eval o X.env)
      let iv ← holding [v, ov] (eval i X.env)
      standAt pos'
      holding [v, ov, iv] (setItem ov iv v)
      release [v, ov, iv] []) := by intro _; rfl) (hs : swapsWithSole [.Subscript o i pos'] e pos.line X.env = pure false := by rfl) (hw : swappedStores [.Subscript o i pos'] e X.env = pure none := by rfl)
    (h1 : (assignEach [.Subscript o i pos'] X.env).map (·.2) = [assign (.Subscript o i pos') X.env] := by rfl) : SS xp X (.Assign [.Subscript o i pos'] e pos) (putM p mo mi ma) := fun W tk => by
  obtain ⟨ta, pa, ha'⟩ := A W tk
  obtain ⟨to, po, ho⟩ := O W tk
  obtain ⟨ti, pi, hi⟩ := I W tk
  obtain ⟨t, pt, ht⟩ := P
  refine ⟨_, ps_asg pa (pg_sub po pi pt ha) hs hw h1, fun ρ env ih σ H N rl post => ?_⟩
  refine fstE (ta := ta) ha' rl (lkS (N := N) rl) post fun ρ1 d h1 v H1 e1 r1 p1 post => ?_
  have rl1 := rl.next e1 r1
  refine fstE (ta := to) ho rl1 (lkS (N := N) rl1) post fun ρ2 o h2 x H2 e2 r2 p2 post => ?_
  have rl2 := rl1.next e2 r2
  refine fstE (ta := ti) hi rl2 (lkS (N := N) rl2) post fun ρ3 i h3 y H3 e3 r3 p3 post => ?_
  split at post
  · rename_i h4 q
    exact ht ρ3 h3 h4 H3 _ o i d x y v r3 (p2.ext e3) p3 (p1.ext (e2.trans e3)) q fun H' x' r' => post ρ3 σ H' x' ((rl2.next e3 r3).next x' r')
  · exact post.elim
/-- a list's item -/
def setL : MP := fun o i d h => match o, i with
  | .ref n, .int k => match h[n]? with
    | some (.lst xs) => (ixN xs.length k).map fun j => h.set n (.lst (xs.set j d))
    | _ => none
  | _, _ => none
theorem p_list : SP' X setL := ⟨_, set_list, fun ρ ih ih' H Q o i d x y v rl ro ri rd e q => by
  unfold setL at e
  split at e
  · split at e
    · rename_i n k _ xs hn
      obtain ⟨j, e1, e2⟩ := Option.map_eq_some_iff.mp e
      subst e2
      cases ro with
      | @ref _ p hp =>
        cases ri
        obtain ⟨vs, hv, rv⟩ := rl.lst hp hn
        obtain ⟨x', rl'⟩ := rewrite rl hp hv (rv.set rd j)
        exact ⟨p, vs, k, j, rfl, rfl, hv, by rw [← rv.length]; exact e1, q _ x' rl'⟩
    · cases e
  · cases e⟩
/-! ### while -/
/-! ### for -/
inductive Src where
  | snap (ds : List D)
  | live (view : IH → Option (List D))
structure ItS (K : PySem.W.Frag) (J : It) (ρ0 : Rho) (H0 : Hp) (ds : List D) : Prop where
  go : ∀ i d ρ H ih, Ext ρ0 H0 ρ H → RelH K ρ ih H → ds[i]? = some d → J.go i H ∧ ∀ x H', J.yld i H x H' → Ext ρ H ρ H' ∧ RelH K ρ ih H' ∧ RepV K ρ H' d x
  stop : ∀ ρ H, Ext ρ0 H0 ρ H → J.stop ds.length H
structure ItV (K : PySem.W.Frag) (J : It) (ρ0 : Rho) (H0 : Hp) (view : IH → Option (List D)) : Prop where
  go : ∀ i d ρ H ih ds, Ext ρ0 H0 ρ H → RelH K ρ ih H → view ih = some ds → ds[i]? = some d → J.go i H ∧ ∀ x H', J.yld i H x H' → Ext ρ H ρ H' ∧ RelH K ρ ih H' ∧ RepV K ρ H' d x
  stop : ∀ i ρ H ih ds, Ext ρ0 H0 ρ H → RelH K ρ ih H → view ih = some ds → ds[i]? = none → J.stop i H
def ItOk (K : PySem.W.Frag) (J : It) (ρ : Rho) (H : Hp) : Src → Prop
  | .snap ds => ItS K J ρ H ds
  | .live v => ItV K J ρ H v
abbrev MI := Ev → IH → R Src
def PostI (K : PySem.W.Frag) (mg : Str → Option Value) (W : WX) (ρ : Rho) (σ : L2.St) (H : Hp) (Q : It → Hp → Prop) : R Src → Prop
  | .ok s ih => ∀ ρ' J H', Ext ρ H ρ' H' → RelH K ρ' ih H' → ItOk K J ρ' H' s → Q J H'
  | .exc x ih => ∀ ρ' cls od H', Ext ρ H ρ' H' → RelH K ρ' ih H' → RepX K mg ρ' H' x cls od → W cls od σ H'
  | .stuck => False
def SI (xp : Option XP) (X : Cx) (tg iter : Expr) (m : MI) : Prop := ∀ W, Takes X W → ∃ t, PI X tg iter t ∧ ∀ ρ env ih σ H Q, Rel X.K xp ρ env ih σ H → PostI X.K X.mg W ρ σ H Q (m env ih) → t σ H Q
theorem PostI.ext {K : PySem.W.Frag} {mg : Str → Option Value} {W : WX} {ρ ρ' : Rho} {σ : L2.St} {H H' : Hp} {Q : It → Hp → Prop} : ∀ {r : R Src}, PostI K mg W ρ σ H Q r → Ext ρ H ρ' H' → PostI K mg W ρ' σ H' Q r
  | .ok _ _, h, x => fun _ v _ y => h _ v _ (x.trans y)
  | .exc _ _, h, x => fun _ _ _ _ y => h _ _ _ _ (x.trans y)
  | .stuck, h, _ => h
theorem lkI {K : PySem.W.Frag} {mg : Str → Option Value} {W : WX} {ρ : Rho} {σ : L2.St} {H : Hp} {Q : It → Hp → Prop} : Lk K mg W σ ρ H (fun ρ H r => PostI K mg W ρ σ H Q r) .exc .stuck := ⟨fun _ _ _ _ _ h x => h.ext x, fun _ _ h => h, fun h => h⟩
/-- a turn -/
def turnM (g : MG) (mb : MS) (d : D) (env : Ev) (h : IH) (k : Ev → IH → RS) : RS := match g d env with
  | none => .stuck
  | some e => match mb e h with
    | .nx e h => k e h
    | .ct e h => k e h
    | .bk e h => .nx e h
    | .rt d h => .rt d h
    | .exc x e h => .exc x e h
    | .stuck => .stuck
def forS (g : MG) (mb : MS) : List D → MS
  | [], env, h => .nx env h
  | d :: ds, env, h => turnM g mb d env h (forS g mb ds)
def forV (g : MG) (mb : MS) (view : IH → Option (List D)) : Nat → Nat → MS
  | 0, _, _, _ => .stuck
  | n + 1, i, env, h => match view h with
    | none => .stuck
    | some ds => match ds[i]? with
      | none => .nx env h
      | some d => turnM g mb d env h (forV g mb view n (i + 1))
/-- the turns that a walk over what changes may take -/
def LOOP : Nat := 2 ^ 64
def forM (mi : MI) (g : MG) (mb : MS) : MS := fun env h => (mi env h).thenS env fun s h => match s with
  | .snap ds => forS g mb ds env h
  | .live v => forV g mb v LOOP 0 env h
/-- a turn, in the reading -/
theorem turn_ok {W : WX} {tg : TG} {tb : TS} {g : MG} {mb : MS} {ρ : Rho} {env : Ev} {ih : IH} {σ : L2.St} {H : Hp} {N : Ends} {d : D} {v : V} {k : Ev → IH → RS} {M : L2.St → Hp → Prop}
    (hg : ∀ ρ env ih σ H Q d v env', Rel X.K xp ρ env ih σ H → RepV X.K ρ H d v → g d env = some env' → (∀ σ', Rel X.K xp ρ env' ih σ' H → Q σ' H) → tg v σ H Q)
    (hb : ∀ ρ env ih σ H N, Rel X.K xp ρ env ih σ H → PostS X.K X.mg W xp ρ H N (mb env ih) → tb N σ H)
    (rl : Rel X.K xp ρ env ih σ H) (rv : RepV X.K ρ H d v) (post : PostS X.K X.mg W xp ρ H N (turnM g mb d env ih k))
    (hM : ∀ ρ' e h σ' H', Ext ρ H ρ' H' → Rel X.K xp ρ' e h σ' H' → PostS X.K X.mg W xp ρ' H' N (k e h) → M σ' H') :
    tg v σ H fun σ2 H2 => tb { N with nx := M, ct := M, bk := N.nx } σ2 H2 := by
  unfold turnM at post
  split at post
  · exact post.elim
  · rename_i e q
    refine hg ρ env ih σ H _ d v e rl rv q fun σ1 r1 => hb ρ e ih σ1 H _ r1 ?_
    revert post
    cases mb e ih with
    | nx e h => exact fun post ρ2 σ2 H2 x2 r2 => hM ρ2 e h σ2 H2 x2 r2 (PostS.ext post x2)
    | ct e h => exact fun post ρ2 σ2 H2 x2 r2 => hM ρ2 e h σ2 H2 x2 r2 (PostS.ext post x2)
    | bk e h => exact fun post => post
    | rt d h => exact fun post => post
    | exc x e h => exact fun post => post
    | stuck => exact fun post => post
theorem st_for {tg iter : Expr} {mi : MI} {g : MG} {mb : MS} (hp : PassesOwn (model X.prog X.w) X.A X.env X.xe) (hc : X.calm = true) (I : SI xp X tg iter mi) (G : SG xp X tg g) (B : SSs xp X b mb)
    (hs : ∀ x, foldedSetIterable iter X.env x = pure x := by intro _; rfl) : SS xp X (.For tg iter b [] pos) (forM mi g mb) := fun W tk => by
  obtain ⟨ti, pi, hi⟩ := I W tk
  obtain ⟨tg, pg, hg⟩ := G
  obtain ⟨tb, pb, hb⟩ := B W tk
  refine ⟨_, ps_for hp hc pi pg pb hs, fun ρ env ih σ H N rl post => ?_⟩
  refine hi ρ env ih σ H _ rl ?_
  have post : PostS X.K X.mg W xp ρ H N ((mi env ih).thenS env fun s h => match s with
    | .snap ds => forS g mb ds env h
    | .live v => forV g mb v LOOP 0 env h) := post
  revert post
  cases mi env ih with
  | exc x h => exact fun post ρ' cls od H' x r q => post ρ' cls od σ H' x (rl.next x r) q
  | stuck => exact fun post => post
  | ok s h1 =>
    cases s with
    | snap ds =>
      intro post ρ1 J H1 x1 r1 (it : ItS X.K J ρ1 H1 ds)
      have rl1 := rl.next x1 r1
      have post1 : PostS X.K X.mg W xp ρ1 H1 N (forS g mb ds env h1) := PostS.ext post x1
      refine ⟨fun i m σ H => i + m = ds.length ∧ ∃ ρ env ih, Ext ρ1 H1 ρ H ∧ Rel X.K xp ρ env ih σ H ∧ PostS X.K X.mg W xp ρ H N (forS g mb (ds.drop i) env ih), ⟨ds.length, by omega, ρ1, env, h1, .refl, rl1, by simpa using post1⟩, ?_⟩
      rintro i m σ H ⟨hm, ρ, env, ih, x, rl, post⟩
      cases q : ds[i]? with
      | none =>
        have hi := List.getElem?_eq_none_iff.mp q
        have ei : i = ds.length := by omega
        subst ei
        rw [List.drop_length] at post
        exact .inl ⟨it.stop ρ H x, post ρ σ H .refl rl⟩
      | some d =>
        obtain ⟨hi, ed⟩ := List.getElem?_eq_some_iff.mp q
        have hd : ds.drop i = d :: ds.drop (i + 1) := by rw [List.drop_eq_getElem_cons hi, ed]
        rw [hd] at post
        obtain ⟨go, yl⟩ := it.go i d ρ H ih x rl.hp q
        refine .inr ⟨go, fun σ H => ∃ ρ env ih, Ext ρ1 H1 ρ H ∧ Rel X.K xp ρ env ih σ H ∧ PostS X.K X.mg W xp ρ H N (forS g mb (ds.drop (i + 1)) env ih), fun σ' H' h => ⟨m - 1, by omega, by omega, h⟩, fun v H' y => ?_⟩
        obtain ⟨x2, r2, rv⟩ := yl v H' y
        refine turn_ok (tg := tg) (tb := tb) hg hb (rl.next x2 r2) rv (PostS.ext post x2) fun ρ' e h σ' H'' x3 r3 post => ?_
        exact ⟨ρ', e, h, (x.trans x2).trans x3, r3, post⟩
    | live v =>
      intro post ρ1 J H1 x1 r1 (it : ItV X.K J ρ1 H1 v)
      have rl1 := rl.next x1 r1
      have post1 : PostS X.K X.mg W xp ρ1 H1 N (forV g mb v LOOP 0 env h1) := PostS.ext post x1
      refine ⟨fun i m σ H => ∃ ρ env ih, Ext ρ1 H1 ρ H ∧ Rel X.K xp ρ env ih σ H ∧ PostS X.K X.mg W xp ρ H N (forV g mb v m i env ih), ⟨LOOP, ρ1, env, h1, .refl, rl1, post1⟩, ?_⟩
      rintro i m σ H ⟨ρ, env, ih, x, rl, post⟩
      cases m with
      | zero => exact post.elim
      | succ m =>
        unfold forV at post
        cases q : v ih with
        | none => rw [q] at post; exact post.elim
        | some ds =>
          rw [q] at post
          dsimp only at post
          cases q2 : ds[i]? with
          | none =>
            rw [q2] at post
            exact .inl ⟨it.stop i ρ H ih ds x rl.hp q q2, post ρ σ H .refl rl⟩
          | some d =>
            rw [q2] at post
            obtain ⟨go, yl⟩ := it.go i d ρ H ih ds x rl.hp q q2
            refine .inr ⟨go, fun σ H => ∃ ρ env ih, Ext ρ1 H1 ρ H ∧ Rel X.K xp ρ env ih σ H ∧ PostS X.K X.mg W xp ρ H N (forV g mb v m (i + 1) env ih), fun σ' H' h => ⟨m, Nat.lt_succ_self _, h⟩, fun y H' yy => ?_⟩
            obtain ⟨x2, r2, rv⟩ := yl y H' yy
            refine turn_ok (tg := tg) (tb := tb) hg hb (rl.next x2 r2) rv (PostS.ext post x2) fun ρ' e h σ' H'' x3 r3 post => ?_
            exact ⟨ρ', e, h, (x.trans x2).trans x3, r3, post⟩
end
end Z
/-! Z6K: the keys of a dict (tuples of ints) walked. -/
namespace Z
open PySem PySem.Spec PyProof.Rows L2
section
variable {P : Program} {w : World} {K : PySem.W.Frag} {tg : Expr}
/-- the dict at a, of n keys; while it is walked no key comes anew -/
def ItD (a : Addr) (n : Nat) : It :=
  ⟨fun i H => i < n ∧ ∃ ob xs, H a = some (.ext (isO a ob)) ∧ TabT a ob xs ∧ xs.length = n,
    fun i H x H' => H' = H ∧ ∀ ob xs, H a = some (.ext (isO a ob)) → TabT a ob xs → xs.length = n → ∃ y, xs[i]? = some y ∧ x = .ref y.2.1,
    fun i H => n ≤ i ∧ ∃ ob xs, H a = some (.ext (isO a ob)) ∧ TabT a ob xs ∧ xs.length = n⟩
theorem ext_here {X : Cx} {pins : List (Addr × Obj)} {σ : L2.St} {H : Hp} {s : Shared} {a : Addr} {ob : Obj} (I : Inv X pins σ H s) (e : H a = some (.ext (isO a ob))) : s.heap.get? a = some ob := (show ObjOk X.prog X.w H s.heap a (.ext (isO a ob)) from I.hok a _ e).1
theorem tab_size (P : Program) (w : World) {a : Addr} {ob : Obj} {xs : List (List Int × Addr × Value)} (t : TabT a ob xs) : ∃ es, ob.data = .dict es xs.length ∧ es.size = xs.length ∧ ∀ (i : Nat) (x : List Int × Addr × Value), xs[i]? = some x → ∃ en : DictEntry, es[i]? = some en ∧ en.key = .ref x.2.1 ∧ en.val = x.2.2 := by
  obtain ⟨_, _, _, _, es, h1, h2⟩ := t
  have h3 : es.size = xs.length := by
    have := size_of_entries (h2 P w)
    rw [List.length_map] at this
    exact this
  refine ⟨es, h1, h3, fun i x hx => ?_⟩
  have e := entry_at (h2 P w) i
  rw [List.getElem?_map, hx] at e
  exact ⟨_, e, rfl, rfl⟩
theorem turn_keysD {a : Addr} {n : Nat} (it : Addr) : Turn P w K tg (ItD a n) [it] it (fun i h => h.IsKeyIter it a i n n) where
  mem := List.mem_singleton.mpr rfl
  obj := fun i h st b hb => by
    obtain rfl : b = it := List.mem_singleton.mp hb
    obtain ⟨oi, e, _, dd⟩ := st; exact ⟨oi, e, fun v z => by rw [dd] at z; cases z⟩
  keep := fun i h h' st k => st.at fun oi e => k it (List.mem_singleton.mpr rfl) oi e
  item := by
    intro X hP hw hK hc i pins s σ H E I hf st hg
    subst hP hw hK; obtain ⟨hi, ob, xs, he, t, hl⟩ := hg
    obtain ⟨f0, f1, f2, f3, f4, f5⟩ := hf it (List.mem_singleton.mpr rfl)
    obtain ⟨es, q1, q2, q3⟩ := tab_size X.prog X.w t
    obtain ⟨en, e1, e2, _⟩ := q3 i xs[i] (List.getElem?_eq_getElem (hl ▸ hi))
    have hob := ext_here I he
    rw [hl] at q1 q2
    refine next_key_item st hob q1 q2 e1 fun h' st' sb => ?_
    have I1 : Inv X pins σ H { s with heap := h' } := I.turned (t' := s.toks) (fun b ob hb e => (sb.2 b hb).trans e) f0 f1 f3 f4 f5
    obtain ⟨oi, e, c, dd⟩ := id st'
    exact ⟨en.key, rfl, go_of (s := { s with heap := h' }) e c dd (by decide) ⟨.ref xs[i].2.1, H, I1, e2, ⟨rfl, fun o2 x2 h2 t2 l2 => by
      have := ext_here I h2
      rw [hob] at this; cases this
      obtain ⟨es2, g1, g2, g3⟩ := tab_size X.prog X.w t2
      rw [q1] at g1; cases g1
      obtain ⟨en2, g4, g5, _⟩ := g3 i x2[i] (List.getElem?_eq_getElem (l2 ▸ hi))
      rw [e1] at g4; cases g4
      rw [e2] at g5
      have g6 := Value.ref.inj g5
      exact ⟨_, List.getElem?_eq_getElem (l2 ▸ hi), by rw [g6]⟩⟩, st', fun b hb => (hf b hb).1⟩⟩
  done := by
    intro X hP hw hK hc i pins s σ H E I hf st hg
    subst hP hw hK; obtain ⟨hi, ob, xs, he, t, hl⟩ := hg
    obtain ⟨f0, f1, f2, f3, f4, f5⟩ := hf it (List.mem_singleton.mpr rfl)
    obtain ⟨es, q1, q2, q3⟩ := tab_size X.prog X.w t
    rw [hl] at q1 q2
    exact next_key_end (I.ok.hd hc) st (ext_here I he) q1 q2 hi fun h' eb => ⟨rfl, I.turned (t' := s.toks) (fun b ob hb e => eb b ob hb e) f0 f1 f3 f4 f5⟩
  self := fun A i s Q E st h => wpAny_pyIter_keyiter st h
def iKeysD (td : TE) : TI := fun σ H R => td σ H fun x H1 => ∃ d ob xs, x = .ref d ∧ H1 d = some (.ext (isO d ob)) ∧ TabT d ob xs ∧ R (ItD d xs.length) H1
theorem pi_keysD {X : Cx} {e : Expr} {td : TE} (he : PE X e td) : PI X tg e (iKeysD td) := by
  refine ⟨fun pins s σ H R I h => ?_⟩
  refine thn (he.run pins s σ H _ I h) fun u s1 ⟨x, H1, I1, rx, d, ob, xs, ex, hd, t, q⟩ => ?_
  subst ex; obtain rfl : u = Value.ref d := rx
  obtain ⟨es, q1, q2, q3⟩ := tab_size X.prog X.w t
  refine iter_keys t.1 (ext_here I1 hd) t.2.2.1 q1 (pi_one (tk := s1.toks) I1 _ (turn_keysD _) ⟨_, Heap.get?_push_size _ rfl, rfl, ?_⟩ q)
  rw [q2] <;> rfl
end
/-- the keys, as long as there are n of them -/
def viewT (m n : Nat) : IH → Option (List D) := fun h => match h[m]? with
  | some (.dit kvs) => if kvs.length = n then some (kvs.map fun kv => .tup (kv.1.map .int)) else none
  | _ => none
theorem RepL.int's {K : PySem.W.Frag} {ρ : Rho} {H : Hp} : ∀ ns : List Int, RepL K ρ H (ns.map D.int) (ns.map V.int)
  | [] => .nil
  | i :: ns => .cons (.int i) (RepL.int's ns)
theorem RepT.len {K : PySem.W.Frag} {ρ : Rho} {H : Hp} : ∀ {ds : List (List Int × D)} {xs : List (List Int × Addr × Value)}, RepT K ρ H ds xs → ds.length = xs.length
  | _, _, .nil => rfl
  | _, _, .cons _ _ _ t => congrArg (· + 1) t.len
theorem RepT.at {K : PySem.W.Frag} {ρ : Rho} {H : Hp} : ∀ {ds : List (List Int × D)} {xs : List (List Int × Addr × Value)} {i : Nat} {kv : List Int × D}, RepT K ρ H ds xs → ds[i]? = some kv → ∃ x v, xs[i]? = some x ∧ x.1 = kv.1 ∧ SqT K H x.2.1 (kv.1.map V.int) ∧ RepV K ρ H kv.2 v ∧ RelV v x.2.2
  | _, _, 0, _, .cons h1 h2 h3 _, e => by cases e; exact ⟨_, _, rfl, rfl, h1, h2, h3⟩
  | _, _, i + 1, _, .cons _ _ _ t, e => t.at (i := i) e
  | _, _, 0, _, .nil, e => nomatch e
  | _, _, i + 1, _, .nil, e => nomatch e
theorem itd_ref {K : PySem.W.Frag} {ρ : Rho} {H : Hp} {m n : Nat} {a : Addr} (ha : ρ.as[m]? = some a) : ItV K (ItD a n) ρ H (viewT m n) where
  go := fun i d ρ' H' ih ds x rl ev e => by
    unfold viewT at ev
    split at ev
    · rename_i kvs hn
      split at ev
      · rename_i hl
        cases ev
        obtain ⟨ob, xs, h1, h2, h3⟩ := rl.obj m a _ (x.get ha) hn
        rw [List.getElem?_map] at e
        obtain ⟨kv, hkv, rfl⟩ := Option.map_eq_some_iff.mp e
        obtain ⟨y, v, e1, e2, e3, e4, e5⟩ := h3.at hkv
        have hi : i < kvs.length := (List.getElem?_eq_some_iff.mp hkv).1
        refine ⟨⟨by omega, ob, xs, h1, h2, by rw [← h3.len]; exact hl⟩, fun z H2 ⟨eH, hz⟩ => ?_⟩
        subst eH
        obtain ⟨y2, q1, q2⟩ := hz ob xs h1 h2 (by rw [← h3.len]; exact hl)
        rw [e1] at q1; cases q1
        rw [q2]
        exact ⟨.refl, rl, .tup e3 (RepL.int's _)⟩
      · cases ev
    · cases ev
  stop := fun i ρ' H' ih ds x rl ev e => by
    unfold viewT at ev
    split at ev
    · rename_i kvs hn
      split at ev
      · rename_i hl
        cases ev
        obtain ⟨ob, xs, h1, h2, h3⟩ := rl.obj m a _ (x.get ha) hn
        have := List.getElem?_eq_none_iff.mp e
        rw [List.length_map] at this
        exact ⟨by omega, ob, xs, h1, h2, by rw [← h3.len]; exact hl⟩
      · cases ev
    · cases ev
end Z
/-! Z7: what is walked; subscripts; built-in functions. -/
namespace Z
open PySem PySem.Spec PyProof.Rows L2
section
variable {xp : Option XP} {X : Cx} {e : Expr} {es : List Expr} {ma mb : ME} {ms : MA} {p pos : Pos} {tg : Expr}
/-! ### walks -/
/-- the items of a list | tuple -/
def srcOf (h : IH) : D → Option Src
  | .tup ds => some (.snap ds)
  | .fz ds => some (.snap ds)
  | .ref n => match h[n]? with
    | some (.lst _) => some (.live fun h => match h[n]? with
      | some (.lst ds) => some ds
      | _ => none)
    | some (.dit kvs) => some (.live (viewT n kvs.length))
    | _ => none
  | _ => none
def seqI (ma : ME) : MI := fun env h => (ma env h).bind fun d h => match srcOf h d with
  | some s => .ok s h
  | none => .stuck
theorem itl_fz {K : PySem.W.Frag} {ρ : Rho} {H : Hp} {a : Addr} {vs : List V} {ds : List D} (h1 : SqF K H a vs) (h2 : RepL K ρ H ds vs) : ItS K (Itl K a) ρ H ds where
  go := fun i d ρ' H' ih x rl e => by
    obtain ⟨v, e1, r1⟩ := h2.get e
    refine ⟨⟨vs, v, (x.sqF h1).sq, e1⟩, fun y H2 ⟨eH, hy⟩ => ?_⟩
    subst eH
    have q := hy vs (x.sqF h1).sq
    rw [e1] at q
    cases q
    exact ⟨.refl, rl, r1.ext x⟩
  stop := fun ρ' H' x => ⟨vs, (x.sqF h1).sq, by rw [h2.length]; exact Nat.le_refl _⟩
theorem itt_tup {K : PySem.W.Frag} {ρ : Rho} {H : Hp} {a : Addr} {vs : List V} {ds : List D} (h1 : SqT K H a vs) (h2 : RepL K ρ H ds vs) : ItS K (Itt K a) ρ H ds where
  go := fun i d ρ' H' ih x rl e => by
    obtain ⟨v, e1, r1⟩ := h2.get e
    refine ⟨⟨vs, v, x.sqT h1, e1⟩, fun y H2 ⟨eH, hy⟩ => ?_⟩
    subst eH
    have q := hy vs (x.sqT h1)
    rw [e1] at q
    cases q
    exact ⟨.refl, rl, r1.ext x⟩
  stop := fun ρ' H' x => ⟨vs, x.sqT h1, by rw [h2.length]; exact Nat.le_refl _⟩
theorem itl_ref {K : PySem.W.Frag} {ρ : Rho} {H : Hp} {n : Nat} {a : Addr} (ha : ρ.as[n]? = some a) : ItV K (Itl K a) ρ H (fun h => match h[n]? with
      | some (.lst ds) => some ds
      | _ => none) where
  go := fun i d ρ' H' ih ds x rl ev e => by
    split at ev
    · rename_i ds' hn
      cases ev
      obtain ⟨vs, hv, rv⟩ := rl.lst (x.get ha) hn
      obtain ⟨v, e1, r1⟩ := rv.get e
      refine ⟨⟨vs, v, SqL.of hv, e1⟩, fun y H2 ⟨eH, hy⟩ => ?_⟩
      subst eH
      have q := hy vs (SqL.of hv)
      rw [e1] at q
      cases q
      exact ⟨.refl, rl, r1⟩
    · cases ev
  stop := fun i ρ' H' ih ds x rl ev e => by
    split at ev
    · rename_i ds' hn
      cases ev
      obtain ⟨vs, hv, rv⟩ := rl.lst (x.get ha) hn
      exact ⟨vs, SqL.of hv, by rw [← rv.length]; exact List.getElem?_eq_none_iff.mp e⟩
    · cases ev
def iOr (t u : TI) : TI := fun σ H R => t σ H R ∨ u σ H R
theorem pi_or {iter : Expr} {t u : TI} (h : PI X tg iter t) (g : PI X tg iter u) : PI X tg iter (iOr t u) := ⟨fun pins s σ H R I q => q.elim (h.run pins s σ H R I) (g.run pins s σ H R I)⟩
theorem si_seq (A : SE xp X e ma) : SI xp X tg e (seqI ma) := fun W tk => by
  obtain ⟨ta, pa, ha⟩ := A W tk
  refine ⟨_, pi_or (pi_or (pi_list pa) (pi_tup pa)) (pi_keysD pa), fun ρ env ih σ H Q rl post => ?_⟩
  -- by what the value is
  have post : PostI X.K X.mg W ρ σ H Q ((ma env ih).bind fun d h => match srcOf h d with
    | some s => .ok s h
    | none => .stuck) := post
  revert post
  cases q : ma env ih with
  | exc x h => intro post; exact .inl (.inl (ha ρ env ih σ H _ rl (by rw [q]; exact post)))
  | stuck => exact fun post => post.elim
  | ok d h1 =>
    intro post
    cases hd : srcOf h1 d with
    | none => simp only [R.bind, R.bindG_ok, hd] at post; exact post.elim
    | some s =>
      simp only [R.bind, R.bindG_ok, hd] at post
      cases d with
      | tup ds =>
        cases hd
        refine .inl <| .inr (ha ρ env ih σ H _ rl (by
          rw [q]
          intro ρ1 v H1 x1 r1 p1
          cases p1 with
          | @tup a vs _ h1 h2 => exact ⟨a, rfl, ⟨vs, h1⟩, post ρ1 _ H1 x1 r1 (itt_tup h1 h2)⟩))
      | fz ds =>
        cases hd
        refine .inl <| .inl (ha ρ env ih σ H _ rl (by
          rw [q]
          intro ρ1 v H1 x1 r1 p1
          cases p1 with
          | @fz a vs _ h1 h2 => exact ⟨a, rfl, ⟨vs, h1.sq⟩, post ρ1 _ H1 x1 r1 (itl_fz h1 h2)⟩))
      | ref n =>
        have hd' : (match h1[n]? with
          | some (.lst _) => some (Src.live fun h => match h[n]? with
            | some (.lst ds) => some ds
            | _ => none)
          | some (.dit kvs) => some (Src.live (viewT n kvs.length))
          | _ => none) = some s := hd
        split at hd'
        · rename_i ds hn
          cases hd'
          refine .inl <| .inl (ha ρ env ih σ H _ rl (by
            rw [q]
            intro ρ1 v H1 x1 r1 p1
            cases p1 with
            | @ref _ a h1 =>
              obtain ⟨vs, hv, rv⟩ := r1.lst h1 hn
              exact ⟨a, rfl, ⟨vs, SqL.of hv⟩, post ρ1 _ H1 x1 r1 (itl_ref h1)⟩))
        · rename_i kvs hn
          cases hd'
          refine .inr (ha ρ env ih σ H _ rl (by
            rw [q]
            intro ρ1 v H1 x1 r1 p1
            cases p1 with
            | @ref _ a h1 =>
              obtain ⟨ob, xs, hv, tv, rv⟩ := r1.obj n a _ h1 hn
              refine ⟨a, ob, xs, rfl, hv, tv, ?_⟩
              have z := post ρ1 _ H1 x1 r1 (itd_ref h1)
              rw [rv.len] at z
              exact z))
        · cases hd'
      | _ => cases hd

/-! range -/
def rngD (lo : Int) (n : Nat) : List D := (List.range n).map fun (i : Nat) => D.int (lo + (i : Int))
theorem rngD_length {lo : Int} {n : Nat} : (rngD lo n).length = n := by simp [rngD]
theorem rngD_get {lo : Int} {n i : Nat} {d : D} (h : (rngD lo n)[i]? = some d) : i < n ∧ d = .int (lo + (i : Int)) := by
  unfold rngD at h
  rw [List.getElem?_map] at h
  obtain ⟨j, h1, h2⟩ := Option.map_eq_some_iff.mp h
  obtain ⟨h3, h4⟩ := List.getElem?_eq_some_iff.mp h1
  rw [List.getElem_range] at h4
  subst h4
  exact ⟨by simpa using h3, h2.symm⟩
theorem itr_ok {K : PySem.W.Frag} {ρ : Rho} {H : Hp} {lo : Int} {n : Nat} : ItS K (Itr lo n) ρ H (rngD lo n) where
  go := fun i d ρ' H' ih x rl e => by
    obtain ⟨hi, rfl⟩ := rngD_get e
    exact ⟨hi, fun y H2 ⟨eH, hy⟩ => by subst eH; subst hy; exact ⟨.refl, rl, .int _⟩⟩
  stop := fun ρ' H' x => by rw [rngD_length]; exact Nat.le_refl n
/-- (decided by choice: the kernel must not count to it) -/
def Rng (j : Int) : Prop := -(2 ^ 62) ≤ j ∧ j < 2 ^ 62
theorem rng_of {j : Int} (h0 : -(2 ^ 62) ≤ j) (h1 : j < 2 ^ 62) : Rng j := ⟨h0, h1⟩
noncomputable instance (j : Int) : Decidable (Rng j) := Classical.propDecidable _
noncomputable def rngI1 (ms : MA) : MI := fun env h => (ms env h).bind fun ds h => match ds with
  | [.int j] => if Rng j then .ok (.snap (rngD 0 j.toNat)) h else .stuck
  | _ => .stuck
noncomputable def rngI2 (ms : MA) : MI := fun env h => (ms env h).bind fun ds h => match ds with
  | [.int i, .int j] => if Rng i ∧ Rng j then .ok (.snap (rngD i (j - i).toNat)) h else .stuck
  | _ => .stuck
theorem si_range1 {a : Expr} (hg : Gl X "range") (hm : X.mg "range" = none) (A : SA xp X [a] ms) (hs : starEach [a] X.env = [(false, eval a X.env)] := by rfl) : SI xp X tg (.Call (.Name "range" p) [a] [] pos) (rngI1 ms) := fun W tk => by
  obtain ⟨ta, pa, ha⟩ := A W tk
  refine ⟨_, pi_range1 hg hm pa hs, fun ρ env ih σ H Q rl post => ?_⟩
  refine fstA (ta := ta) ha rl (lkI (Q := Q)) post fun ρ1 ds h1 vs H1 e1 r1 p1 post => ?_
  split at post
  · rename_i j
    cases p1 with
    | cons q1 t =>
      cases t
      cases q1
      split at post
      · rename_i c
        exact ⟨j, rfl, c.1, c.2, post ρ1 _ H1 .refl r1 itr_ok⟩
      · exact post.elim
  · exact post.elim
/-! ### subscripts -/
/-- of a list, a tuple, a text -/
def ixM : MO := fun d e h => match e with
  | .int k => match d with
    | .tup ds => match atI ds k with
      | some x => .ok x h
      | none => .stuck
    | .fz ds => match atI ds k with
      | some x => .ok x h
      | none => .stuck
    | .ref n => match h[n]? with
      | some (.lst ds) => match atI ds k with
        | some x => .ok x h
        | none => .stuck
      | _ => .stuck
    | .str z => if z.length ≤ sizeLine then match atI z.cps.toList k with
      | some c => .ok (.str ⟨#[c]⟩) h
      | none => .stuck else .stuck
    | _ => .stuck
  | _ => .stuck
theorem RepL.at {K : PySem.W.Frag} {ρ : Rho} {H : Hp} {ds : List D} {vs : List V} {k : Int} {d : D} (r : RepL K ρ H ds vs) (h : atI ds k = some d) : ∃ v, atI vs k = some v ∧ RepV K ρ H d v := by
  unfold atI at h
  obtain ⟨j, h1, h2⟩ := Option.bind_eq_some_iff.mp h
  obtain ⟨v, h3, h4⟩ := r.get h2
  refine ⟨v, ?_, h4⟩
  unfold atI
  rw [← r.length, h1]
  exact h3
theorem s_ix {a b : Expr} (A : SE xp X a ma) (B : SE xp X b mb) (hs : PlainIx b := by exact fun _ _ => rfl) : SE xp X (.Subscript a b pos) (binM ixM ma mb) := fun W tk => by
  obtain ⟨ta, pa, ha⟩ := A W tk
  obtain ⟨tb, pb, hb⟩ := B W tk
  refine ⟨_, pe_ix ix_seq pa pb hs, fun ρ env ih σ H Q rl post => ?_⟩
  refine bin2 (ta := ta) (tb := tb) ha hb rl post fun ρ1 h1 H1 d e x y x1 r1 rd re post => ?_
  unfold ixM at post
  split at post
  · rename_i k
    cases re
    split at post
    · cases rd with
      | @tup a vs _ h1 h2 =>
        split at post
        · rename_i z q
          obtain ⟨v, hv, rv⟩ := h2.at q
          exact .inr (.inl ⟨a, vs, k, v, rfl, rfl, h1, hv, post ρ1 _ H1 .refl r1 rv⟩)
        · exact post.elim
    · cases rd with
      | @fz a vs _ h1 h2 =>
        split at post
        · rename_i z q
          obtain ⟨v, hv, rv⟩ := h2.at q
          exact .inl ⟨a, vs, k, v, rfl, rfl, h1.sq, hv, post ρ1 _ H1 .refl r1 rv⟩
        · exact post.elim
    · cases rd with
      | @ref _ a h1 =>
        split at post
        · rename_i ds hn
          obtain ⟨vs, hv, rl⟩ := r1.lst h1 hn
          split at post
          · rename_i z q
            obtain ⟨v, hv', rv⟩ := rl.at q
            exact .inl ⟨a, vs, k, v, rfl, rfl, SqL.of hv, hv', post ρ1 _ H1 .refl r1 rv⟩
          · exact post.elim
        · exact post.elim
    · cases rd
      split at post
      · rename_i c
        split at post
        · rename_i z q
          exact .inr (.inr ⟨_, k, z, rfl, rfl, c, q, post ρ1 _ H1 .refl r1 (.str _)⟩)
        · exact post.elim
      · exact post.elim
    · exact post.elim
  · exact post.elim

/-! ### built-in functions -/
def SC (X : Cx) (f : Value) (m : MF) : Prop := ∃ r, CallR X f r ∧ ∀ W ρ ih H σ Q ds vs, RelH X.K ρ ih H → RepL X.K ρ H ds vs → PostE X.K X.mg W ρ σ H Q (m ds ih) → r vs H Q
variable {x : Str} {F : MF} {id T : String}
theorem s_callB (c : SC X (.builtin id) F) (hg : Gl X x) (hm : X.mg x = none) (hv : bootBuiltins x = some (.builtin id)) (A : SA xp X (e :: es) ms) (hn : x ≠ "__name__" := by decide) (hdb : (x == ("__debug__" : Str)) = false := by decide)
    (he : starEach (e :: es) X.env = (false, eval e X.env) :: starEach es X.env := by rfl) (hpl : (backTo pos (starEach es X.env)).any (·.1) = false := by rfl) : SE xp X (.Call (.Name x p) (e :: es) [] pos) (callM F ms) := fun W tk => by
  obtain ⟨ta, pa, ha⟩ := A W tk
  obtain ⟨r, hc, hr⟩ := c
  refine ⟨_, pe_callB hc hg hm hv pa hn hdb he hpl, fun ρ env ih σ H Q rl post => ?_⟩
  exact fstA (ta := ta) ha rl (lkE (Q := Q)) post fun ρ1 ds h1 vs H1 e1 r1 p1 post => hr W ρ1 h1 H1 σ Q ds vs r1 p1 post
theorem s_callTy (c : SC X (.type T) F) (hg : Gl X x) (hm : X.mg x = none) (hv : bootBuiltins x = some (.type T)) (A : SA xp X (e :: es) ms) (hn : x ≠ "__name__" := by decide) (hdb : (x == ("__debug__" : Str)) = false := by decide)
    (he : starEach (e :: es) X.env = (false, eval e X.env) :: starEach es X.env := by rfl) (hpl : (backTo pos (starEach es X.env)).any (·.1) = false := by rfl) : SE xp X (.Call (.Name x p) (e :: es) [] pos) (callM F ms) := fun W tk => by
  obtain ⟨ta, pa, ha⟩ := A W tk
  obtain ⟨r, hc, hr⟩ := c
  refine ⟨_, pe_callTy hc hg hm hv pa hn hdb he hpl, fun ρ env ih σ H Q rl post => ?_⟩
  exact fstA (ta := ta) ha rl (lkE (Q := Q)) post fun ρ1 ds h1 vs H1 e1 r1 p1 post => hr W ρ1 h1 H1 σ Q ds vs r1 p1 post
/-- a built-in function of a module, by an imported name -/
theorem s_callF (c : SC X (.builtin id) F) (hg : Gl X x) (hm : X.mg x = some (.builtin id)) (A : SA xp X (e :: es) ms) (hdb : (x == ("__debug__" : Str)) = false := by decide)
    (he : starEach (e :: es) X.env = (false, eval e X.env) :: starEach es X.env := by rfl) (hpl : (backTo pos (starEach es X.env)).any (·.1) = false := by rfl) : SE xp X (.Call (.Name x p) (e :: es) [] pos) (callM F ms) := fun W tk => by
  obtain ⟨ta, pa, ha⟩ := A W tk
  obtain ⟨r, hc, hr⟩ := c
  refine ⟨_, pe_callBfun hc hg hm pa hdb he hpl, fun ρ env ih σ H Q rl post => ?_⟩
  exact fstA (ta := ta) ha rl (lkE (Q := Q)) post fun ρ1 ds h1 vs H1 e1 r1 p1 post => hr W ρ1 h1 H1 σ Q ds vs r1 p1 post
def lenF : MF := fun ds h => match ds with
  | [.tup xs] => .ok (.int xs.length) h
  | [.fz xs] => .ok (.int xs.length) h
  | [.str x] => if x.length ≤ sizeLine then .ok (.int x.length) h else .stuck
  | [.ref n] => match h[n]? with
    | some (.lst xs) => .ok (.int xs.length) h
    | _ => .stuck
  | _ => .stuck
theorem c_len : SC X (.builtin "len") lenF := ⟨_, call_len, fun W ρ ih H σ Q ds vs rl rv post => by
  unfold lenF at post
  split at post
  · cases rv with
    | cons q t =>
      cases t
      cases q with
      | @tup a vs xs h1 h2 =>
        refine ⟨_, _, rfl, .inr ⟨vs, h1, rfl⟩, ?_⟩
        rw [← h2.length]
        exact post ρ _ H .refl rl (.int _)
  · cases rv with
    | cons q t =>
      cases t
      cases q with
      | @fz a vs xs h1 h2 =>
        refine ⟨_, _, rfl, .inl ⟨vs, h1.sq, rfl⟩, ?_⟩
        rw [← h2.length]
        exact post ρ _ H .refl rl (.int _)
  · cases rv with
    | cons q t =>
      cases t
      cases q
      split at post
      · rename_i c
        exact ⟨_, _, rfl, ⟨c, rfl⟩, post ρ _ H .refl rl (.int _)⟩
      · exact post.elim
  · cases rv with
    | cons q t =>
      cases t
      cases q with
      | @ref n a h1 =>
        split at post
        · rename_i xs hn
          obtain ⟨vs, hv, r⟩ := rl.lst h1 hn
          refine ⟨_, _, rfl, .inl ⟨vs, SqL.of hv, rfl⟩, ?_⟩
          rw [← r.length]
          exact post ρ _ H .refl rl (.int _)
        · exact post.elim
  · exact post.elim⟩
def absF : MF := fun ds h => match ds with
  | [.int i] => .ok (.int (if i < 0 then -i else i)) h
  | _ => .stuck
theorem c_abs : SC X (.builtin "abs") absF := ⟨_, call_abs, fun W ρ ih H σ Q ds vs rl rv post => by
  unfold absF at post
  split at post
  · cases rv with
    | cons q t =>
      cases t
      cases q
      exact ⟨_, rfl, post ρ _ H .refl rl (.int _)⟩
  · exact post.elim⟩
def intF : MF := fun ds h => match ds with
  | [.int i] => .ok (.int i) h
  | [.bl b] => .ok (.int (if b then 1 else 0)) h
  | _ => .stuck
theorem c_int : SC X (.type "int") intF := ⟨_, call_int1, fun W ρ ih H σ Q ds vs rl rv post => by
  unfold intF at post
  split at post
  · cases rv with
    | cons q t =>
      cases t
      cases q
      exact .inl ⟨_, rfl, post ρ _ H .refl rl (.int _)⟩
  · cases rv with
    | cons q t =>
      cases t
      cases q
      exact .inr ⟨_, rfl, post ρ _ H .refl rl (.int _)⟩
  · exact post.elim⟩
def gcdF : MF := fun ds h => match ds with
  | [.int i, .int j] => .ok (.int ((Nat.gcd i.natAbs j.natAbs : Nat) : Int)) h
  | _ => .stuck
theorem c_gcd : SC X (.builtin "math.gcd") gcdF := ⟨_, cr_gcd, fun W ρ ih H σ Q ds vs rl rv post => by
  unfold gcdF at post
  split at post
  · cases rv with
    | cons q t =>
      cases t with
      | cons q2 t =>
        cases t
        cases q
        cases q2
        exact ⟨_, _, rfl, post ρ _ H .refl rl (.int _)⟩
  · exact post.elim⟩
/-- list(x) -/
def listF : MF := fun ds h => match ds with
  | [.tup xs] => newL h xs
  | [.fz xs] => newL h xs
  | [.ref n] => match h[n]? with
    | some (.lst xs) => newL h xs
    | _ => .stuck
  | _ => .stuck
theorem c_list : SC X (.type "list") listF := ⟨_, call_list_of, fun W ρ ih H σ Q ds vs rl rv post => by
  unfold listF at post
  split at post
  · cases rv with
    | cons q t =>
      cases t
      cases q with
      | @tup a vs xs h1 h2 =>
        refine ⟨_, vs, rfl, .inr h1, fun l hl => ?_⟩
        obtain ⟨ρ', x', rl', rv⟩ := alloc rl hl h2
        exact post ρ' _ _ x' rl' rv
  · cases rv with
    | cons q t =>
      cases t
      cases q with
      | @fz a vs xs h1 h2 =>
        refine ⟨_, vs, rfl, .inl h1.sq, fun l hl => ?_⟩
        obtain ⟨ρ', x', rl', rv⟩ := alloc rl hl h2
        exact post ρ' _ _ x' rl' rv
  · cases rv with
    | cons q t =>
      cases t
      cases q with
      | @ref n a h1 =>
        split at post
        · rename_i xs hn
          obtain ⟨vs, hv, r⟩ := rl.lst h1 hn
          refine ⟨_, vs, rfl, .inl (SqL.of hv), fun l hl => ?_⟩
          obtain ⟨ρ', x', rl', rv⟩ := alloc rl hl r
          exact post ρ' _ _ x' rl' rv
        · exact post.elim
  · exact post.elim⟩

/-! ### isinstance -/
def tyN (h : IH) : D → Option String
  | .non => some "NoneType"
  | .bl _ => some "bool"
  | .int _ => some "int"
  | .str _ => some "str"
  | .tup _ => some "tuple"
  | .fz _ => some "list"
  | .ref n => match h[n]? with
    | some (.lst _) => some "list"
    | _ => none
  | .xv => none
theorem tyN_ok {K : PySem.W.Frag} {ρ : Rho} {H : Hp} {ih : IH} (rl : RelH K ρ ih H) {d : D} {v : V} {n : String} (q : tyN ih d = some n) (r : RepV K ρ H d v) : TyX K H v (.type n) := by
  cases r with
  | non => cases q; exact .base .non
  | bl b => cases q; exact .base (.bl b)
  | int i => cases q; exact .base (.int i)
  | str x => cases q; exact .base (.str x)
  | tup h1 h2 =>
    cases q
    rcases h1 with (h1 | ⟨o, h1⟩) | ⟨o, its, k, h1, h3, _⟩
    · exact .base (.tup h1)
    · exact .fTuple h1
    · exact .kTuple h1 h3
  | fz h1 h2 =>
    cases q
    rcases h1 with ⟨o, h1⟩ | ⟨o, its, k, h1, h3, _⟩
    · exact .base (.frz h1)
    · exact .kList h1 h3
  | @ref m a h1 =>
    have q' : (match ih[m]? with
      | some (.lst _) => some "list"
      | _ => none) = some n := q
    split at q'
    · rename_i ds hn
      cases q'
      obtain ⟨vs, hv, _⟩ := rl.lst h1 hn
      exact .base (.lst hv)
    · cases q'
/-- isinstance(e, T), T a built-in class -/
def isiM (T : String) (ma : ME) : ME := fun env h => (ma env h).bind fun d h => match (tyN h d).bind fun n => kitB n T with
  | some b => .ok (.bl b) h
  | none => .stuck
theorem s_isi {y : Str} {p2 : Pos} (hg : Gl X "isinstance") (hm : X.mg "isinstance" = none) (hg2 : Gl X y) (hm2 : X.mg y = none) (hv2 : bootBuiltins y = some (.type T)) (A : SE xp X e ma)
    (hv : bootBuiltins "isinstance" = some (.builtin "isinstance") := by decide +kernel) (hn2 : y ≠ "__name__" := by decide) (hdb2 : (y == ("__debug__" : Str)) = false := by decide)
    (hs1 : starEach [e, .Name y p2] X.env = (false, eval e X.env) :: starEach [.Name y p2] X.env := by rfl) (hs2 : starEach [.Name y p2] X.env = (false, eval (.Name y p2) X.env) :: starEach [] X.env := by rfl)
    (hpl : (backTo pos (starEach [.Name y p2] X.env)).any (·.1) = false := by rfl) : SE xp X (.Call (.Name "isinstance" p) [e, .Name y p2] [] pos) (isiM T ma) := fun W tk => by
  obtain ⟨ta, pa, ha⟩ := A W tk
  refine ⟨_, pe_callB call_isi hg hm hv (pa_cons pa (pa_cons (pe_bltn (v := .ty T) hg2 hm2 hv2 rfl hn2 hdb2) pa_nil hs2) hs1) (by decide) (by decide) hs1 hpl, fun ρ env ih σ H Q rl post => ?_⟩
  refine fstE (ta := ta) ha rl (lkE (Q := Q)) post fun ρ1 d h1 v H1 e1 r1 p1 post => ?_
  split at post
  · rename_i b q
    obtain ⟨n, q1, q2⟩ := Option.bind_eq_some_iff.mp q
    exact ⟨v, .ty T, .type n, .type T, b, rfl, .ty T, tyN_ok r1 q1 p1, kit_ty q2, post ρ1 _ H1 .refl r1 (.bl _)⟩
  · exact post.elim
end
end Z
/-! Z8: a def's promise from its body; exceptions. -/
namespace Z
open PySem PySem.Spec PyProof.Rows L2
def finM : RS → R D
  | .nx _ h => .ok .non h
  | .rt d h => .ok d h
  | .exc x _ h => .exc x h
  | _ => .stuck
noncomputable def defM (n : Nat) (m : MS) : MF := fun ds h => trunc h (finM (m (ds.map some ++ List.replicate (n - ds.length) none) h))
section
variable {P : Program} {w : World} {K : PySem.W.Frag} {mg : Str → Option Value} {base : Heap} {ρ : Rho} {H : Hp} {ih : IH}
theorem start_rel {ds : List D} {vs : List V} {N : List Str} {n : Nat} (rl : RelH K ρ ih H) (rv : RepL K ρ H ds vs) (hn : n = N.length) : Rel K none ρ (ds.map some ++ List.replicate (n - ds.length) none) ih (L2.start N vs) H := by
  subst hn
  have hl := rv.length
  refine ⟨rl, by simp [L2.start, hl], fun i d e ne => ?_, fun i e => ?_, fun p e => by cases e⟩
  · by_cases hi : i < ds.length
    · rw [List.getElem?_append_left (by simpa using hi), List.getElem?_map] at e
      obtain ⟨d', e1, e2⟩ := Option.map_eq_some_iff.mp e
      cases e2
      obtain ⟨v, e3, e4⟩ := rv.get e1
      refine ⟨v, ?_, e4⟩
      unfold L2.start
      rw [List.getElem?_append_left (by simpa [← hl] using hi), List.getElem?_map, e3]
      rfl
    · rw [List.getElem?_append_right (by simpa using hi)] at e
      have := List.mem_of_getElem? e
      rw [List.mem_replicate] at this
      cases this.2
  · by_cases hi : i < ds.length
    · rw [List.getElem?_append_left (by simpa using hi), List.getElem?_map] at e
      obtain ⟨d', e1, e2⟩ := Option.map_eq_some_iff.mp e
      cases e2
      obtain ⟨v, e3, e4⟩ := rv.get e1
      cases e4
    · rw [List.getElem?_append_right (by simpa using hi)] at e
      have := List.mem_of_getElem? e
      rw [List.mem_replicate] at this
      cases this.2
/-- a def does what its body's meaning says -/
theorem fn_sim {x qual : Str} {params : Arguments} {body : List Stmt} {scope : Scope} {f : Addr} {fd : FuncData} {N ps : List Str} {k n : Nat} {m : MS} (F : FunD K x qual params body scope [] [] f fd) (S : FnScope N ps scope) (hn : n = N.length)
    (B : ∀ (cdv : Value) (A : Around) (outer : List PySem.Env) (s : Shared) (H : Hp) (E : XK), Room k (A.deeper (envOfC qual scope s.heap.objs.size f cdv)) → SSs none (cxOf (L2.CX P w) P w K mg base N qual scope f cdv A outer s H E) body m) :
    FnOk P w K mg base (L2.CX P w) (k + 1) f fd ps (spF K mg ps.length (defM n m)) := by
  refine F.ok S (fun vs H Q E h => h.1) (fun cdv A outer s H vs Q E hr h => ?_)
  obtain ⟨hl, ρ, ds, ih, rl, rv, post⟩ := h
  obtain ⟨t, pt, ht⟩ := B cdv A outer s H E hr (fun cls od _ H => E cls od H) (takes_of rfl rfl rfl rfl)
  refine ⟨t, pt, ht ρ _ ih (L2.start N vs) H _ (start_rel rl rv hn) ?_⟩
  have post := trunc_post rl post
  revert post
  show PostE K mg _ ρ [] H Q (finM (m _ ih)) → PostS K mg _ none ρ H _ (m _ ih)
  cases m (ds.map some ++ List.replicate (n - ds.length) none) ih with
  | nx e h => exact fun post ρ' σ' H' x r => post ρ' .non H' x r.hp .non
  | rt d h => exact fun post => post
  | exc x e h => exact fun post ρ' cls od σ' H' y r q => post ρ' cls od H' y r.hp q
  | bk e h => exact fun post => post.elim
  | ct e h => exact fun post => post.elim
  | stuck => exact fun post => post.elim
theorem fs_of {x qual : Str} {params : Arguments} {body : List Stmt} {scope : Scope} {f : Addr} {fd : FuncData} {N ps : List Str} {k n : Nat} {m : MS} (F : FunD K x qual params body scope [] [] f fd) (S : FnScope N ps scope) (hn : n = N.length) (hm : mg x = some (.ref f)) (hb : Binds K fd ps [])
    (B : ∀ (cdv : Value) (A : Around) (outer : List PySem.Env) (s : Shared) (H : Hp) (E : XK), Room k (A.deeper (envOfC qual scope s.heap.objs.size f cdv)) → SSs none (cxOf (L2.CX P w) P w K mg base N qual scope f cdv A outer s H E) body m) :
    FS P w K mg base x (k + 1) ps.length (defM n m) := ⟨f, fd, ps, hm, F.kp, hb, fn_sim F S hn B⟩
end

/-! ### making an exception -/
/-- __init__ stores its arguments in the fields fs -/
def spI (C : Addr) (fs : List Str) : Sp := fun vs H Q _ => ∃ (a : Addr) (ws : List V), vs = .ref a :: ws ∧ ws.length = fs.length ∧ H a = some (exo a C none) ∧
  ∀ dx H', H dx = none → dx ≠ a → H' a = some (exo a C (some dx)) → H' dx = some (exd dx (fs.zip ws).reverse) → (∀ b, b ≠ a → b ≠ dx → H' b = H b) → Q .non H'
/-- the class named x is an exception of fields fs -/
structure XC (P : Program) (w : World) (K : PySem.W.Frag) (mg : Str → Option Value) (base : Heap) (x : Str) (k : Nat) (fs : List Str) : Prop where
  ex : ∃ (C fI : Addr) (fd : FuncData) (ps : List Str), C = He.ga K x ∧ mg x = some (.ref C) ∧ OexC K C ∧ PySem.W.findIn K (.ref C) "__init__" = some (some (.ref fI)) ∧ PySem.W.typeIn K (.ref fI) = some (.type "function") ∧
    Binds K fd ps [] ∧ FnOk P w K mg base (L2.CX P w) k fI fd ps (spI C fs)
section
variable {K : PySem.W.Frag} {ρ : Rho} {H : Hp}
theorem RepF.append : ∀ {a c : List (Str × D)} {b d : List (Str × V)}, RepF K ρ H a b → RepF K ρ H c d → RepF K ρ H (a ++ c) (b ++ d)
  | _, _, _, _, .nil, s => s
  | _, _, _, _, .cons r t, s => .cons r (RepF.append t s)
theorem RepF.reverse : ∀ {a : List (Str × D)} {b : List (Str × V)}, RepF K ρ H a b → RepF K ρ H a.reverse b.reverse
  | _, _, .nil => .nil
  | _, _, .cons r t => by
    rw [List.reverse_cons, List.reverse_cons]
    exact (RepF.reverse t).append (.cons r .nil)
theorem RepF.zip : ∀ (fs : List Str) {ds : List D} {vs : List V}, RepL K ρ H ds vs → RepF K ρ H (fs.zip ds) (fs.zip vs)
  | [], _, _, _ => .nil
  | _ :: _, _, _, .nil => .nil
  | _ :: fs, _, _, .cons r t => .cons r (RepF.zip fs t)
end
section
variable {xp : Option XP} {X : Cx} {e : Expr} {es : List Expr} {ms : MA} {x : Str} {k j : Nat} {fs : List Str} {p pos pos2 : Pos}
def raiseM (x : Str) (fs : List Str) (ms : MA) : MS := fun env h => (ms env h).thenS env fun ds h => if ds.length = fs.length ∧ fs.length ≤ 900 then .exc ⟨x, (fs.zip ds).reverse⟩ env h else .stuck
theorem st_raise (hc : X.calm = true) (c : XC X.prog X.w X.K X.mg X.base x k fs) (hr : Room j X.A) (hk : k + 1 ≤ j) (hg : Gl X x) (A : SA xp X (e :: es) ms)
    (hdb : (x == ("__debug__" : Str)) = false := by decide) (he : starEach (e :: es) X.env = (false, eval e X.env) :: starEach es X.env := by rfl) (hpl : (backTo pos (starEach es X.env)).any (·.1) = false := by rfl) :
    SS xp X (.Raise (some (.Call (.Name x p) (e :: es) [] pos)) none pos2) (raiseM x fs ms) := fun W tk => by
  obtain ⟨ta, pa, ha⟩ := A W tk
  obtain ⟨C, fI, fd, ps, eC, hm, T, iC, tI, hb, hF⟩ := c.ex
  refine ⟨_, ps_raise hc tk (pmk_oex T iC tI hF (hr.mono hk) hb .nil passL hg hm pa hdb he hpl), fun ρ env ih σ H N rl post => ?_⟩
  refine fstA (ta := ta) ha rl (lkS (N := N) rl) post fun ρ1 ds h1 vs H1 e1 r1 p1 post => ?_
  split at post
  · rename_i c
    have hl := p1.length
    refine ⟨by omega, fun a hna => ?_⟩
    refine ⟨a, vs, by rw [List.append_nil], by omega, upd_same, fun dx H' hdx hne h2 h3 h4 => ⟨rfl, dx, _, h2, h3, ?_, ?_⟩⟩
    · rw [upd_ne hne] at hdx; exact hdx
    · have hdx1 : H1 dx = none := by rw [upd_ne hne] at hdx; exact hdx
      have ag : ∀ b, b ≠ dx → upd (del H' a) dx (.xd (fs.zip vs).reverse) b = H1 b := fun b hb => by
        rw [upd_ne hb]
        by_cases hba : b = a
        · rw [hba, del_same, hna]
        · rw [del_ne hba, h4 b hba hb, upd_ne hba]
      have x2 : Ext ρ1 H1 ρ1 (upd (del H' a) dx (.xd (fs.zip vs).reverse)) :=
        ⟨List.prefix_refl _, fun _ z => .inl z, fun b o q _ => by rw [ag b (ne_of_none q hdx1)]; exact q, fun b o q => by rw [ag b (ne_of_none q hdx1)]; exact q,
          fun b o u q => by rw [ag b (ne_of_none q hdx1)]; exact q, fun b o q => by rw [ag b (ne_of_none q hdx1)]; exact q⟩
      have r2 : RelH X.K ρ1 h1 (upd (del H' a) dx (.xd (fs.zip vs).reverse)) := ⟨r1.len, r1.nd, fun n b o q1 q2 => by
        obtain ⟨u, hu⟩ := r1.ne_none (List.mem_of_getElem? q1)
        exact (r1.obj n b o q1 q2).ext x2 (ag b (ne_of_none hu hdx1))⟩
      exact post ρ1 (.ref C) (some dx) σ _ x2 ((rl.next e1 r1).next x2 r2) ⟨dx, _, by rw [eC], rfl, upd_same, ((RepF.zip fs p1).reverse).ext x2⟩
  · exact post.elim

/-! ### try -/
def clr : Option D → Option D
  | some .xv => none
  | o => o
theorem Rel.leave {K : PySem.W.Frag} {p : XP} {ρ : Rho} {env : Ev} {ih : IH} {σ : L2.St} {H : Hp} (r : Rel K (some p) ρ env ih σ H) : Rel K none ρ (env.map clr) ih σ H := by
  refine ⟨r.hp, by simp [r.len], fun i d e ne => ?_, fun i e => ?_, fun p e => by cases e⟩
  · rw [List.getElem?_map] at e
    obtain ⟨o, e1, e2⟩ := Option.map_eq_some_iff.mp e
    unfold clr at e2
    split at e2
    · cases e2
    · subst e2
      exact r.var i d e1 ne
  · rw [List.getElem?_map] at e
    obtain ⟨o, e1, e2⟩ := Option.map_eq_some_iff.mp e
    unfold clr at e2
    split at e2
    · cases e2
    · rename_i z
      exact absurd e2 (by intro q; exact z q)
theorem Rel.enter {K : PySem.W.Frag} {mg : Str → Option Value} {a : Addr} {cls : Value} {od : Option Addr} {x : Exc} {ρ : Rho} {env : Ev} {ih : IH} {σ : L2.St} {H : Hp} (r : Rel K none ρ env ih σ H) (q : RepX K mg ρ H x cls od) : Rel K (some ⟨a, cls, od, x⟩) ρ env ih σ H :=
  ⟨r.hp, r.len, r.var, fun i e => (by obtain ⟨p, z, _⟩ := r.xvar i e; cases z), fun p e => (by cases e; exact ⟨mg, q⟩)⟩
theorem Rel.bindx {K : PySem.W.Frag} {p : XP} {ρ : Rho} {env : Ev} {ih : IH} {σ : L2.St} {H : Hp} (r : Rel K (some p) ρ env ih σ H) (i : Nat) : Rel K (some p) ρ (env.set i (some .xv)) ih (σ.set i (some (.ref p.a))) H := by
  refine ⟨r.hp, by simp [r.len], fun j e h ne => ?_, fun j h => ?_, r.xok⟩
  · rcases get_set h with ⟨rfl, e1, hi⟩ | ⟨hj, h⟩
    · cases e1; exact absurd rfl ne
    · rw [List.getElem?_set_ne hj]
      exact r.var j e h ne
  · rcases get_set h with ⟨rfl, e1, hi⟩ | ⟨hj, h⟩
    · exact ⟨p, rfl, List.getElem?_set_self (by rw [← r.len]; exact hi)⟩
    · rw [List.getElem?_set_ne hj]
      exact r.xvar j h
def unsetO {α : Type} (i : Option Nat) (l : List (Option α)) : List (Option α) := match i with
  | some i => l.set i none
  | none => l
/-- behind an except suite: the slot i (if any) is empty -/
def endX (i : Option Nat) : RS → RS
  | .nx e h => .nx ((unsetO i e).map clr) h
  | .bk e h => .bk ((unsetO i e).map clr) h
  | .ct e h => .ct ((unsetO i e).map clr) h
  | .rt d h => .rt d h
  | _ => .stuck
def begX (i : Option Nat) (e : Ev) : Ev := match i with
  | some i => e.set i (some .xv)
  | none => e
/-- try with clauses: a class's name, the suite -/
def catchM (sub : Str → Str → Option Bool) (i : Option Nat) : List (Str × (Exc → MS)) → Exc → Ev → IH → RS
  | [], x, e, h => .exc x e h
  | (c, mh) :: hs, x, e, h => match sub x.cls c with
    | some true => endX i (mh x (begX i e) h)
    | some false => catchM sub i hs x e h
    | none => .stuck
def tryM (sub : Str → Str → Option Bool) (i : Option Nat) (mb : MS) (hs : List (Str × (Exc → MS))) : MS := fun env h => match mb env h with
  | .exc x e h => catchM sub i hs x e h
  | r => r
/-- the reading that a meaning has -/
def canS (K : PySem.W.Frag) (mg : Str → Option Value) (W : WX) (xp : Option XP) (m : MS) : TS := fun D σ H => ∃ ρ env ih, Rel K xp ρ env ih σ H ∧ PostS K mg W xp ρ H D (m env ih)
theorem SSs.can {xp : Option XP} {X : Cx} {st : List Stmt} {m : MS} {W : WX} (S : SSs xp X st m) (tk : Takes X W) : PSs X st (canS X.K X.mg W xp m) := by
  obtain ⟨t, pt, ht⟩ := S W tk
  exact ⟨fun pins s σ H D I ⟨ρ, env, ih, rl, post⟩ => pt.run pins s σ H D I (ht ρ env ih σ H D rl post)⟩
def canH (K : PySem.W.Frag) (mg : Str → Option Value) (mh : Exc → MS) : Addr → Value → Option Addr → TS := fun a cls d D σ H => ∃ x, canS K mg (fun _ _ _ _ => False) (some ⟨a, cls, d, x⟩) (mh x) D σ H
variable {n : Str} {i : Nat} {body suite : List Stmt} {b₀ : Stmt} {np pos' : Pos} {mb : MS} {mh : Exc → MS} {sub : Str → Str → Option Bool}
/-- a suite, whatever the exception -/
def SX (X : Cx) (suite : List Stmt) (mh : Exc → MS) : Prop := ∀ (a : Addr) (oe : Obj) (cls : Value) (d : Option Addr) (pn : List (Addr × Obj)) (x : Exc), Zc cls d oe → (∃ vs, oe.data = .fields vs) → SSs (some ⟨a, cls, d, x⟩) (X.suite a ((a, oe) :: pn)) suite (mh x)
/-- a body, whatever wish -/
def SB (X : Cx) (body : List Stmt) (mb : MS) : Prop := ∀ (pn : List (Addr × Obj)) (xe : Value → Shared → Prop), PassesOwn (model X.prog X.w) X.A X.env xe → SSs none (X.tr pn xe) body mb
theorem SX.can {X : Cx} (S : SX X suite mh) {a : Addr} {oe : Obj} {cls : Value} {d : Option Addr} {pn : List (Addr × Obj)} (hz : Zc cls d oe) (hf : ∃ vs, oe.data = .fields vs) : PSs (X.suite a ((a, oe) :: pn)) suite (canH X.K X.mg mh a cls d) :=
  ⟨fun pins s σ H D I ⟨x, q⟩ => ((S a oe cls d pn x hz hf).can (W := fun _ _ _ _ => False) takes0).run pins s σ H D I q⟩
theorem endX_post {K : PySem.W.Frag} {mg : Str → Option Value} {W : WX} {ρ : Rho} {H : Hp} {D : Ends} {p : XP} {i : Option Nat} {D' : Ends} (hn : ∀ σ H, D'.nx σ H ↔ D.nx (unsetO i σ) H) (hb : ∀ σ H, D'.bk σ H ↔ D.bk (unsetO i σ) H)
    (hc : ∀ σ H, D'.ct σ H ↔ D.ct (unsetO i σ) H) (hr : ∀ v H, D'.rt v H ↔ D.rt v H) : ∀ {r : RS}, PostS K mg W none ρ H D (endX i r) → PostS K mg (fun _ _ _ _ => False) (some p) ρ H D' r := by
  have un : ∀ {ρ' : Rho} {e : Ev} {h : IH} {σ' : L2.St} {H' : Hp}, Rel K (some p) ρ' e h σ' H' → Rel K none ρ' ((unsetO i e).map clr) h (unsetO i σ') H' := fun r => by
    cases i with
    | none => exact r.leave
    | some i => exact (r.unset i).leave
  intro r post
  cases r with
  | nx e h => exact fun ρ' σ' H' x r => (hn _ _).mpr (post ρ' _ H' x (un r))
  | bk e h => exact fun ρ' σ' H' x r => (hb _ _).mpr (post ρ' _ H' x (un r))
  | ct e h => exact fun ρ' σ' H' x r => (hc _ _).mpr (post ρ' _ H' x (un r))
  | rt d h => exact fun ρ' v H' x r q => (hr _ _).mpr (post ρ' v H' x r q)
  | exc x e h => exact post.elim
  | stuck => exact post.elim
theorem st_try_as (hs : X.stack = X.env :: X.outer) (hf : X.env.frame = some X.env.locals) (hN : X.N.Nodup) (hi : X.N[i]? = some n) (hln : X.env.kindOf n = some .local) {c : Value} (hc : Names X x c) (sb : ∀ z b, sub z x = some b → PySem.W.exmOne X.K (.ref (He.ga X.K z)) c = some b)
    (B : SB X body mb) (S : SX X (b₀ :: suite) mh) : SS none X (.Try body [.ExceptHandler (some (.Name x np)) (some n) (b₀ :: suite) pos'] [] [] pos) (tryM sub (some i) mb [(x, mh)]) := fun W tk => by
  refine ⟨_, ps_try_as (i := i) (tb := fun W => canS X.K X.mg W none mb) (ts := canH X.K X.mg mh) (Wout := W) hs hf hN hi hln hc tk (fun W pn xe tk hp => (B pn xe hp).can (X := X.tr pn xe) tk) (fun a oe cls d pn hz hf => S.can hz hf), fun ρ env ih σ H D rl post => ?_⟩
  refine ⟨ρ, env, ih, rl, ?_⟩
  unfold tryM at post
  revert post
  cases mb env ih with
  | nx e h => exact fun post => post
  | bk e h => exact fun post => post
  | ct e h => exact fun post => post
  | rt d h => exact fun post => post
  | stuck => exact fun post => post
  | exc y e h =>
    intro post ρ' cls od σ' H' x1 r1 q
    have post : PostS X.K X.mg W none ρ' H' D (match sub y.cls x with
      | some true => endX (some i) (mh y (begX (some i) e) h)
      | some false => .exc y e h
      | none => .stuck) := PostS.ext post x1
    obtain ⟨dd, vs, e2, e3, e4, e5⟩ := id q
    subst e2
    cases hsb : sub y.cls x with
    | none => rw [hsb] at post; exact post.elim
    | some b =>
      rw [hsb] at post
      have hex := sb y.cls b hsb
      cases b with
      | true => exact ⟨true, hex, fun _ a ha => ⟨y, ρ', _, h, (r1.enter q).bindx i, endX_post (i := some i) (D := D) (W := W) (D' := { nx := fun σ' H' => D.nx (σ'.set i none) H', rt := D.rt, bk := fun σ' H' => D.bk (σ'.set i none) H', ct := fun σ' H' => D.ct (σ'.set i none) H' }) (fun _ _ => Iff.rfl) (fun _ _ => Iff.rfl) (fun _ _ => Iff.rfl) (fun _ _ => Iff.rfl) post⟩, fun z => Bool.noConfusion z⟩
      | false => exact ⟨false, hex, fun z => Bool.noConfusion z, fun _ => post ρ' _ od σ' H' .refl r1 q⟩
end
end Z
/-! Z9: what the top has made of the exceptions' classes; what a suite reads of its exception. -/
namespace Z
open PySem PySem.Spec PyProof.Rows L2
/-! ### a class of exceptions, by looking -/
def oexCls (K : PySem.W.Frag) (C : Addr) : Bool := match K.lookup C with
  | some ⟨.type "type", _, .cls cd, sl⟩ => (match cd.mro, sl.toList with
    | .ref C' :: bm, [_, _, _, _, some (.builtin n), _] => C' == C && n == "ValueError.__new__" && !cd.hasDel && cd.hasDict && PySem.HandSPX.refsVE bm
    | _, _ => false)
  | _ => false
theorem oexCls_ok {K : PySem.W.Frag} {C : Addr} (q : oexCls K C = true) : ∃ nm q N bs bm sn sub ab col dd k0 k1 k2 k3 k5, K.lookup C = some (excClassObj nm q C N bs bm true sn sub ab col dd k0 k1 k2 k3 k5 "ValueError.__new__") ∧ PySem.HandSPX.refsVE bm = true := by
  unfold oexCls at q
  split at q
  · rename_i dd cd sl ho
    split at q
    · rename_i C' bm k0 k1 k2 k3 n k5 hm hs
      simp only [Bool.and_eq_true, beq_iff_eq, Bool.not_eq_true'] at q
      obtain ⟨⟨⟨⟨rfl, rfl⟩, hdel⟩, hd⟩, ht⟩ := q
      obtain ⟨nm, bs, mro, ns, qn, hd', sn, sub, ab, col, del⟩ := cd
      dsimp only at hm hdel hd
      subst hm hdel hd
      have hsl : sl = #[k0, k1, k2, k3, some (.builtin "ValueError.__new__"), k5] := by
        obtain ⟨l⟩ := sl
        simp only at hs
        rw [hs]
      subst hsl
      exact ⟨nm, qn, ns, bs, bm, sn, sub, ab, col, dd, k0, k1, k2, k3, k5, ho, ht⟩
    · cases q
  · cases q
def dB {α : Type} [DecidableEq α] (a b : α) : Bool := decide (a = b)
/-- all that is wanted of the exception class named x with the fields fs -/
def excB (K : PySem.W.Frag) (x : Str) (fs : List Str) : Bool :=
  let C := He.ga K x
  He.eqO (PySem.W.nsIn K mainGlobals x) (some (some (.ref C))) && (oexCls K C && (He.eqO (PySem.W.findIn K (.ref C) "__setattr__") (some (some (.builtin "object.__setattr__"))) &&
  (dB (PySem.W.subIn K (.ref C) (.type "BaseException")) (some true) && (dB (PySem.W.typeIn K (.ref C)) (some (.type "type")) && (PySem.W.keepIn K (.ref C) && (
  He.eqO (PySem.W.findIn K (.ref C) "__init__") (some (some (.ref (He.ma K C "__init__")))) && (dB (PySem.W.typeIn K (.ref (He.ma K C "__init__"))) (some (.type "function")) && (
  xfB K C && (fs.all (fun f => He.eqO (PySem.W.findIn K (.ref C) f) (some none)) && (
  He.eqO (PySem.W.findIn K (.ref C) "__class__") (some (some (.builtin "object.__class__"))) && (He.eqO (PySem.W.specialIn K (.builtin "object.__class__") "__get__") (some (some (.builtin "getset_descriptor.__get__"))) && (
  dB (PySem.W.takesIn K (.builtin "object.__class__")) (some true) && dB (PySem.W.mroIn K C (.type "object")) (some true)))))))))))))
structure ExcF (K : PySem.W.Frag) (x : Str) (fs : List Str) : Prop where
  ns : PySem.W.nsIn K mainGlobals x = some (some (.ref (He.ga K x)))
  oex : OexC K (He.ga K x)
  iC : PySem.W.findIn K (.ref (He.ga K x)) "__init__" = some (some (.ref (He.ma K (He.ga K x) "__init__")))
  tI : PySem.W.typeIn K (.ref (He.ma K (He.ga K x) "__init__")) = some (.type "function")
  xf : XfC K (He.ga K x)
  no : ∀ f ∈ fs, PySem.W.findIn K (.ref (He.ga K x)) f = some none
  ha : PySem.W.findIn K (.ref (He.ga K x)) "__class__" = some (some (.builtin "object.__class__"))
  hn : PySem.W.specialIn K (.builtin "object.__class__") "__get__" = some (some (.builtin "getset_descriptor.__get__"))
  ht : PySem.W.takesIn K (.builtin "object.__class__") = some true
  hm : PySem.W.mroIn K (He.ga K x) (.type "object") = some true
theorem excB_ok {K : PySem.W.Frag} {x : Str} {fs : List Str} (h : excB K x fs = true) : ExcF K x fs := by
  unfold excB at h
  obtain ⟨h1, h⟩ := He.ba h
  obtain ⟨h2, h⟩ := He.ba h
  obtain ⟨h3, h⟩ := He.ba h
  obtain ⟨h4, h⟩ := He.ba h
  obtain ⟨h5, h⟩ := He.ba h
  obtain ⟨h6, h⟩ := He.ba h
  obtain ⟨h7, h⟩ := He.ba h
  obtain ⟨h8, h⟩ := He.ba h
  obtain ⟨h9, h⟩ := He.ba h
  obtain ⟨h10, h⟩ := He.ba h
  obtain ⟨h11, h⟩ := He.ba h
  obtain ⟨h12, h⟩ := He.ba h
  obtain ⟨h13, h14⟩ := He.ba h
  exact ⟨He.eqO_ok h1, ⟨oexCls_ok h2, He.eqO_ok h3, of_decide_eq_true h4, of_decide_eq_true h5, h6⟩, He.eqO_ok h7, of_decide_eq_true h8, xfB_ok h9,
    fun f hf => He.eqO_ok (List.all_eq_true.mp h10 f hf), He.eqO_ok h11, He.eqO_ok h12, of_decide_eq_true h13, of_decide_eq_true h14⟩
/-! ### __init__ of one, two, three fields -/
section
variable {P : Program} {w : World} {K : PySem.W.Frag} {mg : Str → Option Value} {base : Heap} {C f : Addr} {fd : FuncData} {x qual : Str} {params : Arguments} {scope : Scope}
theorem init1 {ns n1 : Str} {p1 p2 p3 p4 : Pos} (F : FunD K x qual params [.Assign [.Attribute (.Name ns p1) n1 p2] (.Name n1 p3) p4] scope [] [] f fd) (S : FnScope [ns, n1] [ns, n1] scope) (T : OexC K C) (no1 : PySem.W.findIn K (.ref C) n1 = some none)
    (v0 : Vis scope ns) (v1 : Vis scope n1) (d0 : (ns == ("__debug__" : Str)) = false := by decide) (d1 : (n1 == ("__debug__" : Str)) = false := by decide) (c0 : (ns == ("__classdict__" : Str)) = false := by decide) (c1 : (n1 == ("__classdict__" : Str)) = false := by decide)
    (hs : ∀ X : Cx, X.env.scope = scope → swapsWith (.Name n1 p3) (some (.Attribute (.Name ns p1) n1 p2)) p4.line X.env = pure false := by intro _ _; rfl) :
    FnOk P w K mg base (L2.CX P w) 1 f fd [ns, n1] (spI C [n1]) := by
  refine F.ok S (fun vs H Q E h => by obtain ⟨a, ws, rfl, hl, _⟩ := h; simpa using hl) (fun cdv A outer s H vs Q E hr h => ?_)
  obtain ⟨a, ws, rfl, hl, ha, k⟩ := h
  obtain ⟨y, rfl⟩ : ∃ y, ws = [y] := by
    match ws, hl with
    | [y], _ => exact ⟨y, rfl⟩
  refine ⟨_, pss_one (ps_ost (pe_var (i := 0) rfl v0 d0 c0) (pe_var (i := 1) rfl v1 d1 c1) (hs _ rfl)), ?_⟩
  refine ⟨y, rfl, .ref a, rfl, a, C, rfl, T, no1, .inl ⟨ha, fun dx hdx hne => ?_⟩⟩
  exact k dx _ hdx hne upd_same (by rw [upd_ne hne]; exact upd_same) fun b h1 h2 => by rw [upd_ne h1, upd_ne h2]
end

/-! ### in a suite -/
section
variable {X : Cx} {a : Addr} {oe : Obj} {cls : Value} {d : Option Addr} {pn : List (Addr × Obj)} {x : Exc} {n : Str} {i : Nat} {p pos : Pos}
/-- the fields that may be read of an exception, by its class's name -/
def XFs (K : PySem.W.Frag) (fok : Str → Str → Bool) : Prop := ∀ c f, fok c f = true → XfC K (He.ga K c) ∧ PySem.W.findIn K (.ref (He.ga K c)) f = some none
def xfM (fok : Str → Str → Bool) (i : Nat) (x : Exc) (f : Str) : ME := fun env h => match env[i]? with
  | some (some .xv) => if fok x.cls f = true then (match x.fs.lookup f with
    | some v => .ok v h
    | none => .stuck) else .stuck
  | _ => .stuck
open Classical in
theorem s_xf {fok : Str → Str → Bool} {f : Str} (T : XFs X.K fok) (hz : Zc cls d oe) (hf : ∃ vs, oe.data = .fields vs) (hv : PE (X.suite a ((a, oe) :: pn)) (.Name n p) (tVar i))
    (hb : attributeBase (.Name n p) f X.env (eval (.Name n p) X.env) = eval (.Name n p) X.env := by rfl) : SE (some ⟨a, cls, d, x⟩) (X.suite a ((a, oe) :: pn)) (.Attribute (.Name n p) f pos) (xfM fok i x f) := fun W tk => by
  by_cases c : fok x.cls f = true
  · obtain ⟨T1, T2⟩ := T x.cls f c
    refine ⟨_, pe_xf T1 T2 hz hf hv hb, fun ρ env ih σ H Q rl post => ?_⟩
    unfold xfM at post
    split at post
    · rename_i e
      obtain ⟨p, e1, e2⟩ := rl.xvar i e
      cases e1
      obtain ⟨mg, dd, vs, h1, h2, h3, h4⟩ := rl.xok _ rfl
      rw [if_pos c] at post
      split at post
      · rename_i v hv
        obtain ⟨u, h5, h6⟩ := h4.get hv
        exact ⟨.ref a, e2, rfl, h1, dd, vs, u, h2, h3, h5, post ρ u H .refl rl.hp h6⟩
      · exact post.elim
    · exact post.elim
  · refine ⟨fun _ _ _ => False, ⟨fun _ _ _ _ _ _ z => z.elim⟩, fun ρ env ih σ H Q rl post => ?_⟩
    unfold xfM at post
    split at post
    · rw [if_neg c] at post
      exact post
    · exact post
/-! isinstance of the exception -/
def isxM (isub : Str → Str → Option Bool) (i : Nat) (x : Exc) (y : Str) : ME := fun env h => match env[i]? with
  | some (some .xv) => (match isub x.cls y with
    | some b => .ok (.bl b) h
    | none => .stuck)
  | _ => .stuck
end

/-! ### argument lists of a known length -/
def LenA (n : Nat) (ms : MA) : Prop := ∀ env h ds h', ms env h = .ok ds h' → ds.length = n
theorem la_nil : LenA 0 anilM := fun env h ds h' e => by cases e; rfl
theorem la_cons {n : Nat} {ma : ME} {ms : MA} (a : LenA n ms) : LenA (n + 1) (aconsM ma ms) := fun env h ds h' e => by
  unfold aconsM at e
  cases q : ma env h with
  | ok d h1 =>
    rw [q] at e
    cases q2 : ms env h1 with
    | ok ds1 h2 =>
      have e : (R.ok (d :: ds1) h2 : R (List D)) = .ok ds h' := by
        have e' : ((ms env h1).bind fun ds h => .ok (d :: ds) h) = .ok ds h' := e
        rw [q2] at e'
        exact e'
      cases e
      exact congrArg Nat.succ (a env h1 ds1 _ q2)
    | exc x h =>
      have e' : ((ms env h1).bind fun ds h => .ok (d :: ds) h) = .ok ds h' := e
      rw [q2] at e'
      cases e'
    | stuck =>
      have e' : ((ms env h1).bind fun ds h => .ok (d :: ds) h) = .ok ds h' := e
      rw [q2] at e'
      cases e'
  | exc x h => rw [q] at e; cases e
  | stuck => rw [q] at e; cases e
end Z
/-! Z10: what the top leaves, as a table; the end of a law. -/
namespace Z
open PySem PySem.Spec PyProof.Rows L2
/-! constants of the module -/
def conSeq (K : PySem.W.Frag) (n : String) (a : Addr) : Option (List Value) := match K.lookup a with
  | some o => match o.cls, o.dict, o.data with
    | .type m, none, .seq its _ => if m = n ∧ its.size ≤ sizeLine then some its.toList else none
    | _, _, _ => none
  | none => none
mutual
def conV (K : PySem.W.Frag) : D → Value → Bool
  | .non, u => match u with | .none => true | _ => false
  | .bl b, u => match u with | .bool c => b == c | _ => false
  | .int i, u => match u with | .int j _ => decide (i = j) | _ => false
  | .str x, u => match u with | .str y _ => decide (x = y) | _ => false
  | .tup ds, u => match u with | .ref a => (match conSeq K "tuple" a with | some us => conL K ds us | none => false) | _ => false
  | .fz ds, u => match u with | .ref a => (match conSeq K "list" a with | some us => conL K ds us | none => false) | _ => false
  | .ref _, _ => false
  | .xv, _ => false
def conL (K : PySem.W.Frag) : List D → List Value → Bool
  | [], us => match us with | [] => true | _ => false
  | d :: ds, us => match us with | u :: us => conV K d u && conL K ds us | [] => false
end
theorem conSeq_ok {K : PySem.W.Frag} {n : String} {a : Addr} {us : List Value} (h : conSeq K n a = some us) : ∃ (o : Obj) (its : Array Value) (k : Nat), K.lookup a = some o ∧ o.cls = .type n ∧ o.dict = none ∧ o.data = .seq its k ∧ its.size ≤ sizeLine ∧ its.toList = us := by
  unfold conSeq at h
  split at h
  · rename_i o e
    split at h
    · rename_i m its k h1 h2 h3
      split at h
      · rename_i c
        cases h
        exact ⟨o, its, k, e, by rw [h1, c.1], h2, h3, c.2, rfl⟩
      · cases h
    · cases h
  · cases h
mutual
theorem conV_ok {K : PySem.W.Frag} : ∀ {d : D} {u : Value}, conV K d u = true → ∃ v, RelV v u ∧ ∀ ρ H, RepV K ρ H d v
  | .non, u, h => by cases u <;> first | exact ⟨.non, rfl, fun _ _ => .non⟩ | cases h
  | .bl b, u, h => by
    cases u <;> first | cases h | skip
    rename_i c
    have : b = c := by simpa [conV] using h
    subst this
    exact ⟨.bl b, rfl, fun _ _ => .bl b⟩
  | .int i, u, h => by
    cases u <;> first | cases h | skip
    rename_i j t
    have : i = j := by simpa [conV] using h
    subst this
    exact ⟨.int i, ⟨t, rfl⟩, fun _ _ => .int i⟩
  | .str x, u, h => by
    cases u <;> first | cases h | skip
    rename_i y t
    have : x = y := by simpa [conV] using h
    subst this
    exact ⟨.str x, ⟨t, rfl⟩, fun _ _ => .str x⟩
  | .tup ds, u, h => by
    cases u <;> first | cases h | skip
    rename_i a
    unfold conV at h
    dsimp only at h
    split at h
    · rename_i us e
      obtain ⟨vs, h1, h2⟩ := conL_ok h
      obtain ⟨o, its, k, q1, q2, q3, q4, q5, q6⟩ := conSeq_ok e
      exact ⟨.ref a, rfl, fun ρ H => .tup (.inr ⟨o, its, k, q1, q2, q4, q5, by rw [q6]; exact h1⟩) (h2 ρ H)⟩
    · cases h
  | .fz ds, u, h => by
    cases u <;> first | cases h | skip
    rename_i a
    unfold conV at h
    dsimp only at h
    split at h
    · rename_i us e
      obtain ⟨vs, h1, h2⟩ := conL_ok h
      obtain ⟨o, its, k, q1, q2, q3, q4, q5, q6⟩ := conSeq_ok e
      exact ⟨.ref a, rfl, fun ρ H => .fz (.inr ⟨o, its, k, q1, q2, q3, q4, q5, by rw [q6]; exact h1⟩) (h2 ρ H)⟩
    · cases h
  | .ref _, _, h => by simp [conV] at h
  | .xv, _, h => by simp [conV] at h
theorem conL_ok {K : PySem.W.Frag} : ∀ {ds : List D} {us : List Value}, conL K ds us = true → ∃ vs, Vals vs us ∧ ∀ ρ H, RepL K ρ H ds vs
  | [], us, h => by
    cases us with
    | nil => exact ⟨[], .nil, fun _ _ => .nil⟩
    | cons u us => simp [conL] at h
  | d :: ds, us, h => by
    cases us with
    | nil => simp [conL] at h
    | cons u us =>
      have h : (conV K d u && conL K ds us) = true := by simpa [conL] using h
      rw [Bool.and_eq_true] at h
      obtain ⟨v, h1, h2⟩ := conV_ok h.1
      obtain ⟨vs, h3, h4⟩ := conL_ok h.2
      exact ⟨v :: vs, .cons h1 h3, fun ρ H => .cons (h2 ρ H) (h4 ρ H)⟩
end
def conX (K : PySem.W.Frag) (x : Str) (d : D) : Bool := match PySem.W.nsIn K mainGlobals x with
  | some (some u) => conV K d u
  | _ => false
/-- x is a constant, d -/
def ConF (K : PySem.W.Frag) (mg : Str → Option Value) (x : Str) (d : D) : Prop := ∃ u v, mg x = some u ∧ RelV v u ∧ ∀ ρ H, RepV K ρ H d v
/-- the names that are free, the built-in functions of modules, the classes, the exceptions with their fields, which class is which -/
structure Tab where
  free : List Str
  bi : List (Str × String)
  cls : List Str
  exc : List (Str × List Str)
  ex : List (Str × Str × Bool)
  ey : List (Str × String × Bool)
  con : List (Str × D) := []
  ali : List (Str × Str) := []
  /-- facts of own classes; classes that are asked for by isinstance; which type is one; dicts of the top with texts as keys -/
  own : List He.Fa := []
  icl : List Str := []
  kit : List (Str × String × Bool) := []
  kio : List (Str × Str × Bool) := []
  dts : List (Str × List (Str × D)) := []
def conK (K : PySem.W.Frag) (x k : Str) (d : D) : Bool := match PySem.W.nsIn K (He.ga K x) k with
  | some (some u) => conV K d u
  | _ => false
/-- what isinstance asks of the class of an instance -/
def iclB (K : PySem.W.Frag) (x : Str) : Bool :=
  let C := He.ga K x
  He.eqO (PySem.W.findIn K (.ref C) "__class__") (some (some (.builtin "object.__class__"))) && (He.eqO (PySem.W.specialIn K (.builtin "object.__class__") "__get__") (some (some (.builtin "getset_descriptor.__get__"))) && (
  dB (PySem.W.takesIn K (.builtin "object.__class__")) (some true) && (dB (PySem.W.mroIn K C (.type "object")) (some true) && (He.Fa.cls x).ok K)))
structure IclF (K : PySem.W.Frag) (C : Addr) : Prop where
  ha : PySem.W.findIn K (.ref C) "__class__" = some (some (.builtin "object.__class__"))
  hn : PySem.W.specialIn K (.builtin "object.__class__") "__get__" = some (some (.builtin "getset_descriptor.__get__"))
  ht : PySem.W.takesIn K (.builtin "object.__class__") = some true
  hm : PySem.W.mroIn K C (.type "object") = some true
  cl : Cls K C
def Tab.more (t : Tab) (K : PySem.W.Frag) : Bool :=
  t.own.all (fun f => f.ok K) && (t.icl.all (fun c => iclB K c) && (t.kit.all (fun p => dB (PySem.W.kitOne K (.type p.2.1) (.ref (He.ga K p.1))) (some p.2.2)) && (
  t.kio.all (fun p => dB (PySem.W.kitOne K (.ref (He.ga K p.2.1)) (.ref (He.ga K p.1))) (some p.2.2)) && t.dts.all (fun q => q.2.all fun kv => conK K q.1 kv.1 kv.2))))
def Tab.ok (t : Tab) (K : PySem.W.Frag) : Bool :=
  t.free.all (fun x => He.eqO (PySem.W.nsIn K mainGlobals x) (some none)) && (t.bi.all (fun p => He.eqO (PySem.W.nsIn K mainGlobals p.1) (some (some (.builtin p.2)))) && (
  t.cls.all (fun x => He.eqO (PySem.W.nsIn K mainGlobals x) (some (some (.ref (He.ga K x))))) && (t.exc.all (fun p => excB K p.1 p.2) && (
  t.ex.all (fun p => dB (PySem.W.exmOne K (.ref (He.ga K p.1)) (.ref (He.ga K p.2.1))) (some p.2.2) && dB (PySem.W.kitOne K (.ref (He.ga K p.1)) (.ref (He.ga K p.2.1))) (some p.2.2)) &&
  t.ey.all (fun p => dB (PySem.W.exmOne K (.ref (He.ga K p.1)) (.type p.2.1)) (some p.2.2) && dB (PySem.W.kitOne K (.ref (He.ga K p.1)) (.type p.2.1)) (some p.2.2)) && (t.con.all (fun p => conX K p.1 p.2) && (t.ali.all (fun p => He.eqO (PySem.W.nsIn K mainGlobals p.1) (some (some (.ref (He.ga K p.2))))) && t.more K))))))
structure Tx (t : Tab) (K : PySem.W.Frag) (mg : Str → Option Value) : Prop where
  mn : ∀ x, x ∈ t.free → mg x = none
  mb : ∀ x id, (x, id) ∈ t.bi → mg x = some (.builtin id)
  mc : ∀ x, x ∈ t.cls → mg x = some (.ref (He.ga K x))
  xc : ∀ x fs, (x, fs) ∈ t.exc → ExcF K x fs
  em : ∀ x y b, (x, y, b) ∈ t.ex → PySem.W.exmOne K (.ref (He.ga K x)) (.ref (He.ga K y)) = some b ∧ PySem.W.kitOne K (.ref (He.ga K x)) (.ref (He.ga K y)) = some b
  et : ∀ x y b, (x, y, b) ∈ t.ey → PySem.W.exmOne K (.ref (He.ga K x)) (.type y) = some b ∧ PySem.W.kitOne K (.ref (He.ga K x)) (.type y) = some b
  con : ∀ x d, (x, d) ∈ t.con → ConF K mg x d
  ali : ∀ x y, (x, y) ∈ t.ali → mg x = some (.ref (He.ga K y))
  more : t.more K = true
theorem Tab.tx {t : Tab} {K : PySem.W.Frag} {h : Heap} {mg : Str → Option Value} (c : t.ok K = true) (X : K.In h) (G : h.Ns mainGlobals mg) : Tx t K mg := by
  unfold Tab.ok at c
  obtain ⟨c1, c⟩ := He.ba c
  obtain ⟨c2, c⟩ := He.ba c
  obtain ⟨c3, c⟩ := He.ba c
  obtain ⟨c4, c⟩ := He.ba c
  obtain ⟨c, c'⟩ := He.ba c
  obtain ⟨c5, c6⟩ := He.ba c
  obtain ⟨c7, c8⟩ := He.ba c'
  obtain ⟨c8, c9⟩ := He.ba c8
  refine ⟨fun x hx => PySem.W.mg_none_of X G (He.eqO_ok (List.all_eq_true.mp c1 x hx)), fun x id hx => PySem.W.mg_of X G (He.eqO_ok (List.all_eq_true.mp c2 (x, id) hx)), fun x hx => PySem.W.mg_of X G (He.eqO_ok (List.all_eq_true.mp c3 x hx)),
    fun x fs hx => excB_ok (List.all_eq_true.mp c4 (x, fs) hx), fun x y b hx => ?_, fun x y b hx => ?_, fun x d hx => ?_, fun x y hx => PySem.W.mg_of X G (He.eqO_ok (List.all_eq_true.mp c8 (x, y) hx)), c9⟩
  · obtain ⟨d1, d2⟩ := He.ba (List.all_eq_true.mp c5 (x, y, b) hx)
    exact ⟨of_decide_eq_true d1, of_decide_eq_true d2⟩
  · obtain ⟨d1, d2⟩ := He.ba (List.all_eq_true.mp c6 (x, y, b) hx)
    exact ⟨of_decide_eq_true d1, of_decide_eq_true d2⟩
  · have q : conX K x d = true := List.all_eq_true.mp c7 (x, d) hx
    unfold conX at q
    split at q
    · rename_i u e
      obtain ⟨v, h1, h2⟩ := conV_ok q
      exact ⟨u, v, PySem.W.mg_of X G e, h1, h2⟩
    · cases q
theorem s_con {xp : Option XP} {X : Cx} {x : Str} {d : D} {pos : Pos} (hg : Gl X x) (h : ConF X.K X.mg x d) (hd : (x == ("__debug__" : Str)) = false := by decide) : SE xp X (.Name x pos) (constM d) := fun W tk => by
  obtain ⟨u, v, h1, h2, h3⟩ := h
  exact ⟨_, pe_glob hg h1 h2 hd, fun ρ env ih σ H Q rl post => post ρ v H .refl rl.hp (h3 ρ H)⟩
/-- is an x a y, both the program's own classes -/
def Tab.sub (t : Tab) (x y : Str) : Option Bool := (t.ex.find? fun p => decide (p.1 = x ∧ p.2.1 = y)).map (·.2.2)
/-- .. y a built-in class, by its name -/
def Tab.suy (t : Tab) (x y : Str) : Option Bool := (t.ey.find? fun p => decide (p.1 = x ∧ PySem.Str.ofString p.2.1 = y)).map (·.2.2)
def Tab.isub (t : Tab) (x y : Str) : Option Bool := match t.sub x y with
  | some b => some b
  | none => t.suy x y
def Tab.fok (t : Tab) (x f : Str) : Bool := t.exc.any fun p => decide (p.1 = x) && p.2.contains f
section
variable {t : Tab} {K : PySem.W.Frag} {mg : Str → Option Value}
theorem Tx.subE (T : Tx t K mg) {x y : Str} {b : Bool} (h : t.sub x y = some b) : PySem.W.exmOne K (.ref (He.ga K x)) (.ref (He.ga K y)) = some b ∧ PySem.W.kitOne K (.ref (He.ga K x)) (.ref (He.ga K y)) = some b := by
  obtain ⟨p, h1, h2⟩ := Option.map_eq_some_iff.mp h
  have h3 := of_decide_eq_true (List.find?_some (p := fun p : Str × Str × Bool => decide (p.1 = x ∧ p.2.1 = y)) h1)
  have h4 := List.mem_of_find?_eq_some h1
  obtain ⟨p1, p2, p3⟩ := p
  obtain ⟨rfl, rfl⟩ := h3
  cases h2
  exact T.em _ _ _ h4
theorem Tx.fokE (T : Tx t K mg) : XFs K t.fok := fun c f h => by
  obtain ⟨p, h1, h2⟩ := List.any_eq_true.mp h
  rw [Bool.and_eq_true] at h2
  obtain ⟨h2, h3⟩ := h2
  obtain ⟨p1, p2⟩ := p
  have e := of_decide_eq_true h2
  dsimp only at e h3
  subst e
  have F := T.xc _ _ h1
  exact ⟨F.xf, F.no f (List.contains_iff_mem.mp h3)⟩
end
/-! ### the head's hook -/
def tabsK (t : Tab) (K : PySem.W.Frag) : List (Option (List (Option (Str × Int)))) := t.dts.map fun q => He.dicW K (He.ga K q.1)
def tabsV (t : Tab) (w : World) : List (Option (List (Option (Str × Int)))) := t.dts.map fun q => some (He.keysIn w.params (q.2.map Prod.fst))
def obsZ (t : Tab) (fn : List He.DefD) (K : PySem.W.Frag) : He.AlT := ((t.ok K && fn.all fun d => d.ok K, fn.map fun d => He.fnW K d.at_), tabsK t K)
def valZ (t : Tab) (fn : List He.DefD) (w : World) : He.AlT := (He.valD fn, tabsV t w)
def SaysZ (t : Tab) (fn : List He.DefD) (w : World) (K : PySem.W.Frag) : Prop := obsZ t fn K = valZ t fn w
section
variable {t : Tab} {fn : List He.DefD} {w : World} {K : PySem.W.Frag}
theorem SaysZ.d (c : SaysZ t fn w K) : (t.ok K && fn.all fun d => d.ok K, fn.map fun d => He.fnW K d.at_) = He.valD fn := congrArg (fun z : He.AlT => z.1) c
theorem SaysZ.tab (c : SaysZ t fn w K) : t.ok K = true :=
  (He.ba (show (t.ok K && fn.all fun d => d.ok K) = true from congrArg (fun z : He.AlD => z.1) c.d)).1
theorem SaysZ.def_ (c : SaysZ t fn w K) (i : Nat) {d : He.DefD} (h : fn[i]? = some d := by rfl) : ∃ fd, FunD K d.name d.qual d.params d.body d.scope (d.dvs K) (d.kws K) (He.fAd K d.at_) fd := by
  have c2 := (He.ba (show (t.ok K && fn.all fun d => d.ok K) = true from congrArg (fun z : He.AlD => z.1) c.d)).2
  have e : fn.map (fun d => He.fnW K d.at_) = fn.map He.DefD.val := congrArg (fun z : He.AlD => z.2) c.d
  have e2 : (fn.map fun d => He.fnW K d.at_)[i]? = (fn.map He.DefD.val)[i]? := by rw [e]
  rw [List.getElem?_map, List.getElem?_map, h] at e2
  exact He.DefD.funD (Option.some.inj e2) (List.all_eq_true.mp c2 d (List.mem_of_getElem? h))
/-- a dict of the top -/
theorem SaysZ.dict (c : SaysZ t fn w K) (i : Nat) {x : Str} {kvs : List (Str × D)} (h : t.dts[i]? = some (x, kvs) := by rfl) : ∃ es n, KDict K w (He.ga K x) es n ∧ es.toList.map He.keyOf = He.keysIn w.params (kvs.map Prod.fst) := by
  have e : tabsK t K = tabsV t w := congrArg (fun z : He.AlT => z.2) c
  have e2 : (tabsK t K)[i]? = (tabsV t w)[i]? := by rw [e]
  unfold tabsK tabsV at e2
  rw [List.getElem?_map, List.getElem?_map, h] at e2
  have e3 : He.dicW K (He.ga K x) = some (He.keysIn w.params (kvs.map Prod.fst)) := Option.some.inj e2
  obtain ⟨es, n, q⟩ := He.dicW_ok e3
  refine ⟨es, n, q, ?_⟩
  unfold He.dicW at e3
  rw [q.at_] at e3
  dsimp only at e3
  rw [show (decide (("dict" : String) = "dict") && ((#[] : Array (Option Value)).isEmpty && !(He.ga K x == sysModules))) = true by rw [q.low]; rfl] at e3
  exact Option.some.inj e3
end
/-! ### the end -/
theorem quiet {P : Program} {w : World} {K : PySem.W.Frag} {mg : Str → Option Value} {base : Heap} {k : Nat} {f : Addr} {fd : FuncData} {ps : List Str} {sp : Sp} (F : FnOk P w K mg base (L2.CX P w) k f fd ps sp) :
    FnOk P w K mg base CX0 k f fd ps (fun vs H Q _ => sp vs H Q fun _ _ _ => False) :=
  ⟨fun vs H Q E h => F.len vs H Q _ h, fun A outer s H args us vs Q E hr he hb hv hs => codeAny_mono (F.run A outer s H args us vs Q (fun _ _ _ => False) hr he hb hv hs) fun r s' q => by
    cases r with
    | ok fl => cases fl <;> exact q
    | error e =>
      obtain ⟨_, _, _, _, _, _, _, _, _, _, _, _, z⟩ := q
      exact z.elim⟩
theorem law_sp {K : PySem.W.Frag} {mg : Str → Option Value} {F : MF} {H : Hp} {a : Addr} {ns : List Int} (hO : Only H) (hS : SqL K H a (ns.map V.int)) (h : ∃ h, F [.fz (ns.map .int)] [] = .ok (.bl true) h) :
    spF K mg 1 F [.ref a] H (fun v _ => v = .bl true) (fun _ _ _ => False) := by
  obtain ⟨h, e⟩ := h
  have hF : SqF K H a (ns.map V.int) := by
    rcases hS with (z | ⟨o, z⟩) | z
    · rcases hO a with q | ⟨o, xs, q⟩
      · rw [q] at z; cases z
      · rw [q] at z; cases z
    · exact .inl ⟨o, z⟩
    · exact .inr z
  have hL : ∀ l : List Int, RepL K ⟨[]⟩ H (l.map D.int) (l.map V.int) := fun l => by
    induction l with
    | nil => exact .nil
    | cons i l ih => exact .cons (.int i) ih
  refine ⟨rfl, ⟨[]⟩, [.fz (ns.map .int)], [], ⟨rfl, List.nodup_nil, fun n a o e1 _ => by simp at e1⟩, .cons (.fz hF (hL ns)) .nil, ?_⟩
  rw [e]
  intro ρ' v H' x r q
  cases q
  rfl
end Z
/-! Z11: the meanings, evaluated (a simp set). -/
namespace Z
open PySem PySem.Spec PyProof.Rows L2
section
variable {env : Ev} {h : IH} {ma mb mc : ME} {mt mt' : MT} {ms : MA} {m1 m2 : MS} {g : MG} {gs : MGs} {o o' : MO} {i j n : Nat} {d e : D} {ds : List D}
/-- a slot's value -/
def okV (h : IH) : D → R D
  | .xv => .stuck
  | d => .ok d h
def getV (h : IH) : Option (Option D) → R D
  | some (some d) => okV h d
  | _ => .stuck
@[simp] theorem okV_non : okV h .non = .ok .non h := rfl
@[simp] theorem okV_bl {b : Bool} : okV h (.bl b) = .ok (.bl b) h := rfl
@[simp] theorem okV_int {i : Int} : okV h (.int i) = .ok (.int i) h := rfl
@[simp] theorem okV_str {x : Str} : okV h (.str x) = .ok (.str x) h := rfl
@[simp] theorem okV_tup : okV h (.tup ds) = .ok (.tup ds) h := rfl
@[simp] theorem okV_fz : okV h (.fz ds) = .ok (.fz ds) h := rfl
@[simp] theorem okV_ref : okV h (.ref n) = .ok (.ref n) h := rfl
@[simp] theorem getV_some : getV h (some (some d)) = okV h d := rfl
@[simp] theorem getV_none : getV h (some none) = .stuck := rfl
@[simp] theorem varM_get : varM i env h = getV h env[i]? := by
  unfold varM getV
  split
  · rename_i e; rw [e]; rfl
  · rename_i d ne e
    rw [e]
    cases d <;> first | rfl | exact absurd rfl ne
  · rename_i h1 h2
    split
    · rename_i d e
      exact absurd e (h2 d)
    · rfl
theorem varM_eq : varM i env h = match env[i]? with
  | some (some .xv) => .stuck
  | some (some d) => .ok d h
  | _ => .stuck := rfl
@[simp] theorem constM_eq : constM d env h = .ok d h := rfl
@[simp] theorem binM_eq : binM o ma mb env h = (ma env h).bindG .exc .stuck fun x h1 => (mb env h1).bindG .exc .stuck fun y h2 => o x y h2 := rfl
@[simp] theorem anilM_eq : anilM env h = .ok [] h := rfl
@[simp] theorem aconsM_eq : aconsM ma ms env h = (ma env h).bindG .exc .stuck fun d h => (ms env h).bindG .exc .stuck fun ds h => .ok (d :: ds) h := rfl
theorem le_line {n : Nat} (h : n ≤ 16777216) : n ≤ sizeLine := by rw [sizeLine_eq]; exact h
theorem tupM_eq : tupM ms env h = (ms env h).bindG .exc .stuck fun ds h => if ds.length ≤ sizeLine then .ok (.tup ds) h else .stuck := rfl
theorem lstM_eq : lstM ms env h = (ms env h).bindG .exc .stuck fun ds h => if ds.length ≤ sizeLine then newL h ds else .stuck := rfl
theorem newL_eq : newL h ds = .ok (.ref h.length) (h ++ [.lst ds]) := rfl
@[simp] theorem sizeLine_is : sizeLine = 16777216 := sizeLine_eq
@[simp] theorem testM_eq : testM ma env h = (ma env h).bindG .exc .stuck fun d h => match truB h d with
  | some b => .ok b h
  | none => .stuck := rfl
@[simp] theorem btestM_eq : btestM ma env h = (ma env h).bindG .exc .stuck fun d h => match d with
  | .bl b => .ok b h
  | _ => .stuck := rfl
@[simp] theorem tnotM_eq : tnotM mt env h = (mt env h).bindG .exc .stuck fun b h => .ok (!b) h := rfl
@[simp] theorem tandM_eq : tandM mt mt' env h = (mt env h).bindG .exc .stuck fun b h => if b = true then mt' env h else .ok false h := rfl
@[simp] theorem torM_eq : torM mt mt' env h = (mt env h).bindG .exc .stuck fun b h => if b = true then .ok true h else mt' env h := rfl
@[simp] theorem andM_eq : andM ma mb env h = (ma env h).bindG .exc .stuck fun d h => match truB h d with
  | some true => mb env h
  | some false => .ok d h
  | none => .stuck := rfl
@[simp] theorem orM_eq : orM ma mb env h = (ma env h).bindG .exc .stuck fun d h => match truB h d with
  | some true => .ok d h
  | some false => mb env h
  | none => .stuck := rfl
@[simp] theorem notM_eq : notM ma env h = (ma env h).bindG .exc .stuck fun d h => match truB h d with
  | some b => .ok (.bl (!b)) h
  | none => .stuck := rfl
@[simp] theorem iteM_eq : iteM mt ma mb env h = (mt env h).bindG .exc .stuck fun b h => if b = true then ma env h else mb env h := rfl
@[simp] theorem negM_eq : negM ma env h = (ma env h).bindG .exc .stuck fun d h => match d with
  | .int i => .ok (.int (-i)) h
  | _ => .stuck := rfl
@[simp] theorem chainM_eq : chainM o o' ma mb mc env h = (ma env h).bindG .exc .stuck fun x h => (mb env h).bindG .exc .stuck fun y h => (o x y h).bindG .exc .stuck fun z h => chain2 o' mc env y z h := rfl
@[simp] theorem chain2_t : chain2 o' mc env d (.bl true) h = (mc env h).bindG .exc .stuck fun w h => o' d w h := rfl
@[simp] theorem chain2_f : chain2 o' mc env d (.bl false) h = .ok (.bl false) h := rfl
@[simp] theorem callM_eq {F : MF} : callM F ms env h = (ms env h).bindG .exc .stuck fun ds h => F ds h := rfl
@[simp] theorem seqM_eq : seqM m1 m2 env h = match m1 env h with
  | .nx e h => m2 e h
  | .rt d h => .rt d h
  | .bk e h => .bk e h
  | .ct e h => .ct e h
  | .exc x e h => .exc x e h
  | .stuck => .stuck := rfl
@[simp] theorem nextM_eq : nextM env h = .nx env h := rfl
@[simp] theorem brkM_eq : brkM env h = .bk env h := rfl
@[simp] theorem contM_eq : contM env h = .ct env h := rfl
@[simp] theorem exprM_eq : exprM ma env h = (ma env h).bindG (fun x h => .exc x env h) .stuck fun _ h => .nx env h := rfl
@[simp] theorem retM_eq : retM ma env h = (ma env h).bindG (fun x h => .exc x env h) .stuck fun d h => .rt d h := rfl
@[simp] theorem retNM_eq : retNM env h = .rt .non h := rfl
@[simp] theorem ifM_eq : ifM mt m1 m2 env h = (mt env h).bindG (fun x h => .exc x env h) .stuck fun b h => if b = true then m1 env h else m2 env h := rfl
@[simp] theorem setM_eq : setM i ma env h = (ma env h).bindG (fun x h => .exc x env h) .stuck fun d h => .nx (env.set i (some d)) h := rfl
@[simp] theorem asgM_eq : asgM g ma env h = (ma env h).bindG (fun x h => .exc x env h) .stuck fun d h => match g d env with
  | some env => .nx env h
  | none => .stuck := rfl
@[simp] theorem gnameM_eq : gnameM i d env = some (env.set i (some d)) := rfl
@[simp] theorem gnilM_eq : gnilM [] env = some env := rfl
@[simp] theorem gconsM_eq : gconsM g gs (d :: ds) env = (g d env).bind fun env => gs ds env := rfl
@[simp] theorem gtupM_eq : gtupM n gs (.tup ds) env = if ds.length = n then gs ds env else none := rfl
@[simp] theorem parM_eq : parM i j ms env h = (ms env h).bindG (fun x h => .exc x env h) .stuck fun ds h => match ds with
  | [d, e] => .nx ((env.set i (some d)).set j (some e)) h
  | _ => .stuck := rfl
@[simp] theorem putM_eq {p : MP} : putM p ma mb mc env h = (mc env h).bindG (fun x h => .exc x env h) .stuck fun d h => (ma env h).bindG (fun x h => .exc x env h) .stuck fun o h => (mb env h).bindG (fun x h => .exc x env h) .stuck fun i h => match p o i d h with
  | some h => .nx env h
  | none => .stuck := rfl
@[simp] theorem raiseM_eq {x : Str} {fs : List Str} : raiseM x fs ms env h = (ms env h).bindG (fun x h => .exc x env h) .stuck fun ds h => if ds.length = fs.length ∧ fs.length ≤ 900 then .exc ⟨x, (fs.zip ds).reverse⟩ env h else .stuck := rfl
@[simp] theorem forM_eq {mi : MI} : forM mi g m1 env h = (mi env h).bindG (fun x h => .exc x env h) .stuck fun s h => match s with
  | .snap ds => forS g m1 ds env h
  | .live v => forV g m1 v LOOP 0 env h := rfl
@[simp] theorem rngI1_eq : rngI1 ms env h = (ms env h).bindG .exc .stuck fun ds h => match ds with
  | [.int j] => if Rng j then .ok (.snap (rngD 0 j.toNat)) h else .stuck
  | _ => .stuck := rfl
@[simp] theorem rngI2_eq : rngI2 ms env h = (ms env h).bindG .exc .stuck fun ds h => match ds with
  | [.int i, .int j] => if Rng i ∧ Rng j then .ok (.snap (rngD i (j - i).toNat)) h else .stuck
  | _ => .stuck := rfl
@[simp] theorem seqI_eq : seqI ma env h = (ma env h).bindG .exc .stuck fun d h => match srcOf h d with
  | some s => .ok s h
  | none => .stuck := rfl
@[simp] theorem srcOf_tup : srcOf h (.tup ds) = some (.snap ds) := rfl
@[simp] theorem srcOf_fz : srcOf h (.fz ds) = some (.snap ds) := rfl
@[simp] theorem forS_nil : forS g m1 [] env h = .nx env h := rfl
@[simp] theorem forS_cons : forS g m1 (d :: ds) env h = turnM g m1 d env h (forS g m1 ds) := rfl
@[simp] theorem turnM_eq {k : Ev → IH → RS} : turnM g m1 d env h k = match g d env with
  | none => .stuck
  | some e => match m1 e h with
    | .nx e h => k e h
    | .ct e h => k e h
    | .bk e h => .nx e h
    | .rt d h => .rt d h
    | .exc x e h => .exc x e h
    | .stuck => .stuck := rfl
@[simp] theorem tryM_eq {sub : Str → Str → Option Bool} {k : Option Nat} {hs : List (Str × (Exc → MS))} : tryM sub k m1 hs env h = match m1 env h with
  | .exc x e h => catchM sub k hs x e h
  | .nx e h => .nx e h
  | .rt d h => .rt d h
  | .bk e h => .bk e h
  | .ct e h => .ct e h
  | .stuck => .stuck := by unfold tryM; cases m1 env h <;> rfl
@[simp] theorem catchM_cons {sub : Str → Str → Option Bool} {k : Option Nat} {c : Str} {mh : Exc → MS} {hs : List (Str × (Exc → MS))} {x : Exc} : catchM sub k ((c, mh) :: hs) x env h = match sub x.cls c with
  | some true => endX k (mh x (begX k env) h)
  | some false => catchM sub k hs x env h
  | none => .stuck := rfl
@[simp] theorem catchM_nil {sub : Str → Str → Option Bool} {k : Option Nat} {x : Exc} : catchM sub k [] x env h = .exc x env h := rfl
@[simp] theorem begX_some : begX (some i) env = env.set i (some .xv) := rfl
@[simp] theorem begX_none : begX none env = env := rfl
@[simp] theorem endX_nx {k : Option Nat} : endX k (.nx env h) = .nx ((unsetO k env).map clr) h := rfl
@[simp] theorem endX_rt {k : Option Nat} : endX k (.rt d h) = .rt d h := rfl
@[simp] theorem endX_bk {k : Option Nat} : endX k (.bk env h) = .bk ((unsetO k env).map clr) h := rfl
@[simp] theorem endX_ct {k : Option Nat} : endX k (.ct env h) = .ct ((unsetO k env).map clr) h := rfl
@[simp] theorem unsetO_some : unsetO (some i) env = env.set i none := rfl
@[simp] theorem unsetO_none : unsetO none env = env := rfl
@[simp] theorem clr_none : clr none = none := rfl
@[simp] theorem clr_int {k : Int} : clr (some (.int k)) = some (.int k) := rfl
@[simp] theorem clr_bl {k : Bool} : clr (some (.bl k)) = some (.bl k) := rfl
@[simp] theorem clr_tup : clr (some (.tup ds)) = some (.tup ds) := rfl
@[simp] theorem clr_ref : clr (some (.ref n)) = some (.ref n) := rfl
@[simp] theorem clr_str {x : Str} : clr (some (.str x)) = some (.str x) := rfl
@[simp] theorem clr_xv : clr (some .xv) = none := rfl
@[simp] theorem finM_nx : finM (.nx env h) = .ok .non h := rfl
@[simp] theorem finM_rt : finM (.rt d h) = .ok d h := rfl
@[simp] theorem finM_exc {x : Exc} : finM (.exc x env h) = .exc x h := rfl
@[simp] theorem xfM_eq {fok : Str → Str → Bool} {x : Exc} {f : Str} : xfM fok i x f env h = match env[i]? with
  | some (some .xv) => if fok x.cls f = true then (match x.fs.lookup f with
    | some v => .ok v h
    | none => .stuck) else .stuck
  | _ => .stuck := rfl
@[simp] theorem isxM_eq {isub : Str → Str → Option Bool} {x : Exc} {y : Str} : isxM isub i x y env h = match env[i]? with
  | some (some .xv) => (match isub x.cls y with
    | some b => .ok (.bl b) h
    | none => .stuck)
  | _ => .stuck := rfl
/-! values -/
@[simp] theorem truB_bl {b : Bool} : truB h (.bl b) = some b := rfl
@[simp] theorem truB_int {k : Int} : truB h (.int k) = some (k != 0) := rfl
@[simp] theorem truB_non : truB h .non = some false := rfl
@[simp] theorem truB_tup : truB h (.tup ds) = some (!ds.isEmpty) := rfl
@[simp] theorem tyN_non : tyN h .non = some "NoneType" := rfl
@[simp] theorem tyN_bl {b : Bool} : tyN h (.bl b) = some "bool" := rfl
@[simp] theorem tyN_int {k : Int} : tyN h (.int k) = some "int" := rfl
@[simp] theorem tyN_str {x : Str} : tyN h (.str x) = some "str" := rfl
@[simp] theorem tyN_tup : tyN h (.tup ds) = some "tuple" := rfl
@[simp] theorem tyN_fz : tyN h (.fz ds) = some "list" := rfl
theorem tyN_ref {xs : List D} (e : h[n]? = some (.lst xs)) : tyN h (.ref n) = some "list" := by unfold tyN; simp only [e]
@[simp] theorem isiM_eq {T : String} : isiM T ma env h = (ma env h).bindG .exc .stuck fun d h => match (tyN h d).bind fun n => kitB n T with
  | some b => .ok (.bl b) h
  | none => .stuck := rfl
@[simp] theorem kit_non_bool : kitB "NoneType" "bool" = some false := by decide +kernel
@[simp] theorem kit_non_list : kitB "NoneType" "list" = some false := by decide +kernel
@[simp] theorem kit_bool_list : kitB "bool" "list" = some false := by decide +kernel
@[simp] theorem kit_str_list : kitB "str" "list" = some false := by decide +kernel
@[simp] theorem kit_tup_bool : kitB "tuple" "bool" = some false := by decide +kernel
@[simp] theorem kit_list_bool : kitB "list" "bool" = some false := by decide +kernel
@[simp] theorem kit_int_int : kitB "int" "int" = some true := by decide +kernel
@[simp] theorem kit_int_bool : kitB "int" "bool" = some false := by decide +kernel
@[simp] theorem kit_bool_int : kitB "bool" "int" = some true := by decide +kernel
@[simp] theorem kit_bool_bool : kitB "bool" "bool" = some true := by decide +kernel
@[simp] theorem kit_tup_tup : kitB "tuple" "tuple" = some true := by decide +kernel
@[simp] theorem kit_int_tup : kitB "int" "tuple" = some false := by decide +kernel
@[simp] theorem kit_non_tup : kitB "NoneType" "tuple" = some false := by decide +kernel
@[simp] theorem kit_list_tup : kitB "list" "tuple" = some false := by decide +kernel
@[simp] theorem kit_str_tup : kitB "str" "tuple" = some false := by decide +kernel
@[simp] theorem kit_bool_tup : kitB "bool" "tuple" = some false := by decide +kernel
@[simp] theorem kit_str_int : kitB "str" "int" = some false := by decide +kernel
@[simp] theorem kit_str_bool : kitB "str" "bool" = some false := by decide +kernel
@[simp] theorem kit_tup_int : kitB "tuple" "int" = some false := by decide +kernel
@[simp] theorem kit_non_int : kitB "NoneType" "int" = some false := by decide +kernel
@[simp] theorem kit_list_int : kitB "list" "int" = some false := by decide +kernel
@[simp] theorem kit_list_list : kitB "list" "list" = some true := by decide +kernel
@[simp] theorem kit_str_str : kitB "str" "str" = some true := by decide +kernel
@[simp] theorem kit_int_str : kitB "int" "str" = some false := by decide +kernel
@[simp] theorem kit_non_str : kitB "NoneType" "str" = some false := by decide +kernel
@[simp] theorem kit_tup_str : kitB "tuple" "str" = some false := by decide +kernel
@[simp] theorem kit_list_str : kitB "list" "str" = some false := by decide +kernel
@[simp] theorem kit_bool_str : kitB "bool" "str" = some false := by decide +kernel
@[simp] theorem kit_tup_list : kitB "tuple" "list" = some false := by decide +kernel
@[simp] theorem kit_int_list : kitB "int" "list" = some false := by decide +kernel
/-! operators on ints -/
variable {x y : Int}
@[simp] theorem subM_int : subM (.int x) (.int y) h = .ok (.int (x - y)) h := by simp [subM, intM]
@[simp] theorem addM_int : addM (.int x) (.int y) h = .ok (.int (x + y)) h := rfl
@[simp] theorem ltM_int : ltM (.int x) (.int y) h = .ok (.bl (decide (x < y))) h := rfl
@[simp] theorem leM_int : leM (.int x) (.int y) h = .ok (.bl (decide (x ≤ y))) h := rfl
@[simp] theorem gtM_int : gtM (.int x) (.int y) h = .ok (.bl (decide (y < x))) h := rfl
@[simp] theorem geM_int : geM (.int x) (.int y) h = .ok (.bl (decide (y ≤ x))) h := rfl
theorem mulM_int (c : small x y) : mulM (.int x) (.int y) h = .ok (.int (x * y)) h := if_pos c
theorem fdivM_int (h0 : y ≠ 0) (c : y.natAbs.log2 < 9000) : fdivM (.int x) (.int y) h = .ok (.int (x.fdiv y)) h := if_pos (show y ≠ 0 ∧ _ from ⟨h0, c⟩)
theorem modM_int (h0 : y ≠ 0) : modM (.int x) (.int y) h = .ok (.int (x.fmod y)) h := if_pos h0
theorem powM_int (c : 0 ≤ y ∧ y ≤ 1000000 ∧ x.natAbs < 2 ^ 64) : powM (.int x) (.int y) h = .ok (.int (x ^ y.toNat)) h := if_pos c
theorem eqv_int {x y : Int} : PyData.eqv (.int x) (.int y) = decide (x = y) := by
  show (x == y) = _
  by_cases c : x = y <;> simp [c]
@[simp] theorem shaped_int {x : Int} : SeqAt.shaped (.int x) = true := by rfl
@[simp] theorem eqB_int : eqB h (.int x) (.int y) = some (decide (x = y)) := by
  show (if SeqAt.shaped (.int x) = true ∧ SeqAt.shaped (.int y) = true then some (PyData.eqv (.int x) (.int y)) else none) = _
  rw [if_pos ⟨shaped_int, shaped_int⟩, eqv_int]
@[simp] theorem eqM_int : eqM (.int x) (.int y) h = .ok (.bl (decide (x = y))) h := by simp [eqM]
@[simp] theorem neM_int : neM (.int x) (.int y) h = .ok (.bl (!decide (x = y))) h := by simp [neM]
theorem eqB_str {x y : Str} (hx : SeqAt.shaped (.str x) = true) (hy : SeqAt.shaped (.str y) = true) : eqB h (.str x) (.str y) = some (x == y) := by
  show (if SeqAt.shaped (.str x) = true ∧ SeqAt.shaped (.str y) = true then some (PyData.eqv (.str x) (.str y)) else none) = _
  rw [if_pos ⟨hx, hy⟩]
  rfl
theorem eqM_str {x y : Str} (hx : SeqAt.shaped (.str x) = true) (hy : SeqAt.shaped (.str y) = true) : eqM (.str x) (.str y) h = .ok (.bl (x == y)) h := by
  unfold eqM
  rw [eqB_str hx hy]
@[simp] theorem isM_bl {n a b : Bool} : isM n (.bl a) (.bl b) h = .ok (.bl (xor n (a == b))) h := rfl
@[simp] theorem isM_nn {n : Bool} : isM n .non .non h = .ok (.bl (!n)) h := rfl
@[simp] theorem isM_in {n : Bool} : isM n (.int x) .non h = .ok (.bl n) h := rfl
@[simp] theorem isM_tn {n : Bool} : isM n (.tup ds) .non h = .ok (.bl n) h := rfl
@[simp] theorem isM_rn {n : Bool} {k : Nat} : isM n (.ref k) .non h = .ok (.bl n) h := rfl
@[simp] theorem isM_sn {n : Bool} {x : Str} : isM n (.str x) .non h = .ok (.bl n) h := rfl
@[simp] theorem lenF_tup : lenF [.tup ds] h = .ok (.int ds.length) h := rfl
@[simp] theorem lenF_fz : lenF [.fz ds] h = .ok (.int ds.length) h := rfl
theorem lenF_ref {xs : List D} (e : h[n]? = some (.lst xs)) : lenF [.ref n] h = .ok (.int xs.length) h := by unfold lenF; simp only [e]
@[simp] theorem absF_int : absF [.int x] h = .ok (.int (if x < 0 then -x else x)) h := rfl
@[simp] theorem intF_int : intF [.int x] h = .ok (.int x) h := rfl
@[simp] theorem intF_bl {b : Bool} : intF [.bl b] h = .ok (.int (if b then 1 else 0)) h := rfl
@[simp] theorem gcdF_int : gcdF [.int x, .int y] h = .ok (.int ((Nat.gcd x.natAbs y.natAbs : Nat) : Int)) h := rfl
@[simp] theorem listF_fz : listF [.fz ds] h = .ok (.ref h.length) (h ++ [.lst ds]) := rfl
@[simp] theorem listF_tup : listF [.tup ds] h = .ok (.ref h.length) (h ++ [.lst ds]) := rfl
theorem ixM_ref {xs : List D} (e : h[n]? = some (.lst xs)) : ixM (.ref n) (.int x) h = match atI xs x with
  | some d => .ok d h
  | none => .stuck := by unfold ixM; simp only [e] <;> rfl
@[simp] theorem ixM_tup : ixM (.tup ds) (.int x) h = match atI ds x with
  | some d => .ok d h
  | none => .stuck := rfl
@[simp] theorem ixM_fz : ixM (.fz ds) (.int x) h = match atI ds x with
  | some d => .ok d h
  | none => .stuck := rfl
theorem setL_ref {xs : List D} (e : h[n]? = some (.lst xs)) : setL (.ref n) (.int x) d h = (ixN xs.length x).map fun j => h.set n (.lst (xs.set j d)) := by unfold setL; simp only [e]
theorem atI_of {α : Type} {xs : List α} {k : Nat} {x : α} (e : xs[k]? = some x) : atI xs (k : Int) = some x := by
  unfold atI ixN
  have := (List.getElem?_eq_some_iff.mp e).1
  rw [if_pos (by omega), if_pos (by omega)]
  exact e
@[simp] theorem atI_0 {α : Type} {a : α} {xs : List α} : atI (a :: xs) 0 = some a := by
  unfold atI ixN
  rw [if_pos (by decide), if_pos (by simp only [List.length_cons]; omega)] <;> rfl
@[simp] theorem atI_1 {α : Type} {a b : α} {xs : List α} : atI (a :: b :: xs) 1 = some b := by
  unfold atI ixN
  rw [if_pos (by decide), if_pos (by simp only [List.length_cons]; omega)] <;> rfl
@[simp] theorem atI_2 {α : Type} {a b c : α} {xs : List α} : atI (a :: b :: c :: xs) 2 = some c := by
  unfold atI ixN
  rw [if_pos (by decide), if_pos (by simp only [List.length_cons]; omega)] <;> rfl
/-! forgetting -/
@[simp] theorem trunc_stuck : trunc h .stuck = .stuck := rfl
open Classical in
theorem trunc_ok {h' : IH} : trunc h (.ok d h') = if d.lt h.length = true ∧ h'.take h.length = h then .ok d h else .ok d h' := rfl
open Classical in
theorem trunc_exc {x : Exc} {h' : IH} : trunc h (.exc x h') = if x.lt h.length = true ∧ h'.take h.length = h then .exc x h else .exc x h' := rfl
theorem trunc_len {h' : IH} (e : h'.length = h.length) : trunc h (.ok d h') = .ok d h' := by
  rw [trunc_ok]
  split
  · rename_i c
    have c2 := c.2
    rw [← e, List.take_length] at c2
    rw [c2]
  · rfl
@[simp] theorem trunc_same : trunc h (.ok d h) = .ok d h := trunc_len rfl
@[simp] theorem trunc_excs {x : Exc} : trunc h (.exc x h) = .exc x h := by rw [trunc_exc]; split <;> rfl
theorem trunc_app {g : IH} (c : d.lt h.length = true) : trunc h (.ok d (h ++ g)) = .ok d h := by
  rw [trunc_ok, if_pos ⟨c, by simp⟩]
theorem trunc_new {h' : IH} {k : Nat} (c : h.length ≤ k) : trunc h (.ok (.ref k) h') = .ok (.ref k) h' := by
  rw [trunc_ok, if_neg]
  rintro ⟨c1, _⟩
  have := of_decide_eq_true c1
  omega
@[simp] theorem lt_int : (D.int x).lt n = true := rfl
@[simp] theorem lt_bl {b : Bool} : (D.bl b).lt n = true := rfl
@[simp] theorem lt_non : D.non.lt n = true := rfl
@[simp] theorem lt_str {z : Str} : (D.str z).lt n = true := rfl
@[simp] theorem lt_tup : (D.tup ds).lt n = D.ltL n ds := rfl
@[simp] theorem ltL_nil : D.ltL n [] = true := rfl
@[simp] theorem ltL_cons : D.ltL n (d :: ds) = (d.lt n && D.ltL n ds) := rfl
end
end Z
/-! Z12: comprehensions of one clause; more built-in functions; in; slices; methods of lists; constants of the module. -/
namespace Z
open PySem PySem.Spec PyProof.Rows L2
/-! ### without the heap's own changes -/
section
variable {K : PySem.W.Frag} {ρ ρ' : Rho} {H H' : Hp}
structure Mon (ρ : Rho) (H : Hp) (ρ' : Rho) (H' : Hp) : Prop where
  get : ∀ (n : Nat) (a : Addr), ρ.as[n]? = some a → ρ'.as[n]? = some a
  tups : ∀ a xs, H a = some (.tup xs) → H' a = some (.tup xs)
  frzs : ∀ a o u, H a = some (.frz o u) → H' a = some (.frz o u)
theorem Mon.sqT (x : Mon ρ H ρ' H') {a : Addr} {vs : List V} (h : SqT K H a vs) : SqT K H' a vs := by
  rcases h with (h | ⟨o, h⟩) | h
  · exact .inl (.inl (x.tups _ _ h))
  · exact .inl (.inr ⟨o, x.frzs _ _ _ h⟩)
  · exact .inr h
theorem Mon.sqF (x : Mon ρ H ρ' H') {a : Addr} {vs : List V} (h : SqF K H a vs) : SqF K H' a vs := by
  rcases h with ⟨o, h⟩ | h
  · exact .inl ⟨o, x.frzs _ _ _ h⟩
  · exact .inr h
mutual
theorem RepV.mon (x : Mon ρ H ρ' H') : ∀ (d : D) (v : V), RepV K ρ H d v → RepV K ρ' H' d v
  | .non, _, h => by cases h; exact .non
  | .bl _, _, h => by cases h; exact .bl _
  | .int _, _, h => by cases h; exact .int _
  | .str _, _, h => by cases h; exact .str _
  | .tup ds, _, h => by
    cases h with
    | tup h1 h2 => exact .tup (x.sqT h1) (RepL.mon x ds _ h2)
  | .ref n, _, h => by
    cases h with
    | ref h1 => exact .ref (x.get _ _ h1)
  | .fz ds, _, h => by
    cases h with
    | fz h1 h2 => exact .fz (x.sqF h1) (RepL.mon x ds _ h2)
  | .xv, _, h => by cases h
theorem RepL.mon (x : Mon ρ H ρ' H') : ∀ (ds : List D) (vs : List V), RepL K ρ H ds vs → RepL K ρ' H' ds vs
  | [], _, h => by cases h; exact .nil
  | d :: ds, _, h => by
    cases h with
    | cons h1 h2 => exact .cons (RepV.mon x d _ h1) (RepL.mon x ds _ h2)
end
theorem RepF.mon (x : Mon ρ H ρ' H') : ∀ {ds : List (Str × D)} {vs : List (Str × V)}, RepF K ρ H ds vs → RepF K ρ' H' ds vs
  | _, _, .nil => .nil
  | _, _, .cons r t => .cons (RepV.mon x _ _ r) (RepF.mon x t)
theorem RepK.mon (x : Mon ρ H ρ' H') : ∀ {ds : List (L2.Key × D)} {vs : List (L2.Key × V)}, RepK K ρ H ds vs → RepK K ρ' H' ds vs
  | _, _, .nil => .nil
  | _, _, .cons r t => .cons (RepV.mon x _ _ r) (RepK.mon x t)
theorem RepT.mon (x : Mon ρ H ρ' H') : ∀ {ds : List (List Int × D)} {vs : List (List Int × Addr × Value)}, RepT K ρ H ds vs → RepT K ρ' H' ds vs
  | _, _, .nil => .nil
  | _, _, .cons a r u t => .cons (x.sqT a) (RepV.mon x _ _ r) u (RepT.mon x t)
theorem RepN.mon (x : Mon ρ H ρ' H') : ∀ {ds : List (NestedKey × D)} {vs : List (NestedKey × Addr × Value)}, RepN K ρ H ds vs → RepN K ρ' H' ds vs
  | _, _, .nil => .nil
  | _, _, .cons a r u t => .cons (KeyV.mono (fun _ _ h => x.sqT h) _ _ a) (RepV.mon x _ _ r) u (RepN.mon x t)
theorem RepO.mon (x : Mon ρ H ρ' H') {a : Addr} (ha : H' a = H a) : ∀ {o : IO}, RepO K ρ H a o → RepO K ρ' H' a o
  | .lst xs, ⟨vs, e, r⟩ => ⟨vs, ha.trans e, r.mon x⟩
  | .dik _, ⟨m, e, r⟩ => ⟨m, ha.trans e, r.mon x⟩
  | .dit _, ⟨o, xs, e, t, r⟩ => ⟨o, xs, ha.trans e, t, r.mon x⟩
  | .dig _, ⟨o, xs, e, t, r⟩ => ⟨o, xs, ha.trans e, t, r.mon x⟩
  | .ins _ _, ⟨dx, vs, e, r⟩ => ⟨dx, vs, ha.trans e, r.mon x⟩
variable {ih : IH} {a : Addr} {us vs : List V}
/-- a list aside is written -/
theorem Mon.put (hl : H a = some (.lst us)) : Mon ρ H ρ (upd H a (.lst vs)) := ⟨fun _ _ h => h, fun b u e => by rw [upd_ne (by rintro rfl; rw [hl] at e; cases e)]; exact e, fun b u v e => by rw [upd_ne (by rintro rfl; rw [hl] at e; cases e)]; exact e⟩
theorem RelH.put (r : RelH K ρ ih H) (hl : H a = some (.lst us)) (ha : a ∉ ρ.as) : RelH K ρ ih (upd H a (.lst vs)) :=
  ⟨r.len, r.nd, fun n b o e1 e2 => (r.obj n b o e1 e2).mon (Mon.put hl) (upd_ne (by rintro rfl; exact ha (List.mem_of_getElem? e1)))⟩
/-- .. and is made one of ours -/
theorem RelH.own (r : RelH K ρ ih H) (hl : H a = some (.lst vs)) (ha : a ∉ ρ.as) {ds : List D} (hr : RepL K ρ H ds vs) : RelH K ⟨ρ.as ++ [a]⟩ (ih ++ [.lst ds]) H := by
  have m : Mon ρ H ⟨ρ.as ++ [a]⟩ H := ⟨fun n b e => by
    show (ρ.as ++ [a])[n]? = some b
    rw [List.getElem?_append_left (List.getElem?_eq_some_iff.mp e).1]; exact e, fun _ _ e => e, fun _ _ _ e => e⟩
  refine ⟨by simp [r.len], List.nodup_append.mpr ⟨r.nd, by simp, fun b hb c hc => by rw [List.mem_singleton.mp hc]; rintro rfl; exact ha hb⟩, fun n b o e1 e2 => ?_⟩
  by_cases hn : n < ih.length
  · have e1 : (ρ.as ++ [a])[n]? = some b := e1
    rw [List.getElem?_append_left (by rw [r.len]; exact hn)] at e1
    rw [List.getElem?_append_left hn] at e2
    exact (r.obj n b o e1 e2).mon m rfl
  · have hl2 : n < (ih ++ [IO.lst ds]).length := (List.getElem?_eq_some_iff.mp e2).1
    have en : n = ih.length := by simp at hl2; omega
    subst en
    have q1 : (ρ.as ++ [a])[ih.length]? = some a := by rw [← r.len]; simp
    have e1' : (ρ.as ++ [a])[ih.length]? = some b := e1
    rw [q1] at e1'; cases e1'
    have q2 : (ih ++ [IO.lst ds])[ih.length]? = some (.lst ds) := by simp
    rw [q2] at e2; cases e2
    exact ⟨vs, hl, hr.mon m⟩
end
/-! ### comprehensions -/
def wipeE : Ev → List Nat → Ev
  | e, [] => e
  | e, v :: vs => (wipeE e vs).set v none
theorem Rel.wipe {K : PySem.W.Frag} {xp : Option XP} {ρ : Rho} {env : Ev} {ih : IH} {σ : L2.St} {H : Hp} (r : Rel K xp ρ env ih σ H) : ∀ vs : List Nat, Rel K xp ρ (wipeE env vs) ih (L2.wipe σ vs) H
  | [] => r
  | v :: vs => (r.wipe vs).unset v
theorem wipe_set {σ : L2.St} {i : Nat} {o : Option V} : ∀ {vs : List Nat}, i ∈ vs → L2.wipe (σ.set i o) vs = L2.wipe σ vs
  | v :: vs, h => by
    show (L2.wipe (σ.set i o) vs).set v none = (L2.wipe σ vs).set v none
    by_cases hv : i ∈ vs
    · rw [wipe_set hv]
    · have : v = i := by
        rcases List.mem_cons.mp h with z | z
        · exact z.symm
        · exact absurd z hv
      subst this
      have aux : ∀ (ws : List Nat), (L2.wipe (σ.set v o) ws).set v none = (L2.wipe σ ws).set v none := fun ws => by
        induction ws with
        | nil => show ((σ.set v o).set v none) = σ.set v none; rw [List.set_set]
        | cons w ws ih =>
          show ((L2.wipe (σ.set v o) ws).set w none).set v none = ((L2.wipe σ ws).set w none).set v none
          by_cases c : w = v
          · subst c; rw [List.set_set, List.set_set, ih]
          · rw [List.set_comm _ _ c, List.set_comm _ _ c, ih]
      exact aux vs
theorem wipe_get {σ : L2.St} {j : Nat} : ∀ {vs : List Nat}, (L2.wipe σ vs)[j]? = if j ∈ vs then (σ[j]?).map (fun _ => none) else σ[j]?
  | [] => by simp [L2.wipe]
  | v :: vs => by
    show ((L2.wipe σ vs).set v none)[j]? = _
    rw [List.getElem?_set, wipe_get (vs := vs), L2.wipe_length]
    by_cases h : v = j
    · subst h
      by_cases hl : v < σ.length
      · simp [hl]
      · simp [hl, List.getElem?_eq_none_iff.mpr (Nat.le_of_not_lt hl)]
    · simp [h, Ne.symm h]
theorem wipe_idem {σ : L2.St} {vs : List Nat} : L2.wipe (L2.wipe σ vs) vs = L2.wipe σ vs := List.ext_getElem? fun j => by
  rw [wipe_get, wipe_get]
  by_cases h : j ∈ vs
  · simp [h, Function.comp_def]
  · simp [h]
abbrev Fam := Shared → Hp → Addr → List (Str × Addr) → List Addr → Cx
/-- the blocks of a comprehension -/
abbrev Blk (X : Cx) (scope : Scope) : Fam := fun s H C cl fp => X.blk s H scope (compEnvC scope cl C X.env) fp
/-- a target in every block: it touches the own slots alone -/
def SGF (xp : Option XP) (K : PySem.W.Frag) (B : Fam) (vs : List Nat) (tg : Expr) (g : MG) : Prop := ∃ t, (∀ s H C cl fp, PG (B s H C cl fp) tg t) ∧
  ∀ ρ env ih σ H Q d v env', Rel K xp ρ env ih σ H → RepV K ρ H d v → g d env = some env' → (∀ σ', Rel K xp ρ env' ih σ' H → L2.wipe σ' vs = L2.wipe σ vs → Q σ' H) → t v σ H Q
section
variable {xp : Option XP} {X : Cx} {scope : Scope} {vs : List Nat} {pos : Pos}
theorem gf_name {i : Nat} {x : Str} (h : ∀ s H C cl fp, PG (Blk X scope s H C cl fp) (.Name x pos) (gName i)) (hi : i ∈ vs) : SGF xp X.K (Blk X scope) vs (.Name x pos) (gnameM i) := ⟨_, h, fun ρ env ih σ H Q d v env' rl rv e q => by
  cases e
  exact q _ (rl.set i rv) (wipe_set hi)⟩
/-- the reading that a meaning has, where nothing may be raised -/
def canE (K : PySem.W.Frag) (mg : Str → Option Value) (xp : Option XP) (m : ME) : TE := fun σ H Q => ∃ ρ env ih, Rel K xp ρ env ih σ H ∧ PostE K mg (fun _ _ _ _ => False) ρ σ H Q (m env ih)
def canT (K : PySem.W.Frag) (mg : Str → Option Value) (xp : Option XP) (m : MT) : TT := fun σ H Q => ∃ ρ env ih, Rel K xp ρ env ih σ H ∧ PostT K mg (fun _ _ _ _ => False) ρ σ H Q (m env ih)
theorem SE.can {Y : Cx} {e : Expr} {m : ME} (S : SE xp Y e m) : PE Y e (canE Y.K Y.mg xp m) := by
  obtain ⟨t, pt, ht⟩ := S (fun _ _ _ _ => False) takes0
  exact ⟨fun pins s σ H Q I ⟨ρ, env, ih, rl, post⟩ => pt.run pins s σ H Q I (ht ρ env ih σ H Q rl post)⟩
theorem ST.can {Y : Cx} {e : Expr} {m : MT} (S : ST xp Y e m) : PT Y e (canT Y.K Y.mg xp m) := by
  obtain ⟨t, pt, ht⟩ := S (fun _ _ _ _ => False) takes0
  exact ⟨fun pins s σ H Q I ⟨ρ, env, ih, rl, post⟩ => pt.run pins s σ H Q I (ht ρ env ih σ H Q rl post)⟩
/-- the tests of a clause -/
def STF (xp : Option XP) (K : PySem.W.Frag) (mg : Str → Option Value) (B : Fam) (ifs : List Expr) (m : MT) : Prop := ∃ t, (∀ s H C cl fp, PTs (B s H C cl fp) ifs t) ∧
  ∀ ρ env ih σ H Q, Rel K xp ρ env ih σ H → PostT K mg (fun _ _ _ _ => False) ρ σ H Q (m env ih) → t σ H Q
def yesM : MT := fun _ h => .ok true h
theorem tf_nil : STF xp X.K X.mg (Blk X scope) [] yesM := ⟨_, fun _ _ _ _ _ => pts_nil, fun ρ env ih σ H Q rl post => post ρ H .refl rl.hp⟩
/-! the items made -/
def lcS (g : MG) (mt : MT) (me : ME) (env : Ev) : List D → IH → R (List D)
  | [], h => .ok [] h
  | d :: ds, h => match g d env with
    | none => .stuck
    | some e => (mt e h).bindG (fun _ _ => .stuck) .stuck fun b h => if b = true then (me e h).bindG (fun _ _ => .stuck) .stuck fun y h => (lcS g mt me env ds h).bind fun ys h => .ok (y :: ys) h else lcS g mt me env ds h
def lcV (g : MG) (mt : MT) (me : ME) (env : Ev) (view : IH → Option (List D)) : Nat → Nat → IH → R (List D)
  | 0, _, _ => .stuck
  | n + 1, i, h => match view h with
    | none => .stuck
    | some ds => match ds[i]? with
      | none => .ok [] h
      | some d => match g d env with
        | none => .stuck
        | some e => (mt e h).bindG (fun _ _ => .stuck) .stuck fun b h => if b = true then (me e h).bindG (fun _ _ => .stuck) .stuck fun y h => (lcV g mt me env view n (i + 1) h).bind fun ys h => .ok (y :: ys) h else lcV g mt me env view n (i + 1) h
/-- the most items that a comprehension walks -/
def MOST : Nat := 16777215
def lcM (mi : MI) (own : List Nat) (g : MG) (mt : MT) (me : ME) : ME := fun env h => (mi env h).bind fun s h => match s with
  | .snap ds => if ds.length ≤ MOST then (lcS g mt me (wipeE env own) ds h).bindG (fun _ _ => .stuck) .stuck fun ys h => newL h ys else .stuck
  | .live v => (lcV g mt me (wipeE env own) v MOST 0 h).bindG (fun _ _ => .stuck) .stuck fun ys h => newL h ys
/-- what is wanted of the items still to come -/
def Rest (K : PySem.W.Frag) (mg : Str → Option Value) (W : WX) (ρ : Rho) (σ : L2.St) (H : Hp) (Q : VK) (acc : List D) (r : R (List D)) : Prop := match r with
  | .ok ys h => ∀ ρ' v H', Ext ρ H ρ' H' → RelH K ρ' (h ++ [.lst (acc ++ ys)]) H' → RepV K ρ' H' (.ref h.length) v → Q v H'
  | _ => False
theorem Rest.cons {K : PySem.W.Frag} {mg : Str → Option Value} {W : WX} {ρ : Rho} {σ : L2.St} {H : Hp} {Q : VK} {acc : List D} {y : D} : ∀ {r : R (List D)}, Rest K mg W ρ σ H Q acc (r.bind fun ys h => .ok (y :: ys) h) → Rest K mg W ρ σ H Q (acc ++ [y]) r
  | .ok ys h, p => by
    have p' : ∀ ρ' v H', Ext ρ H ρ' H' → RelH K ρ' (h ++ [.lst (acc ++ (y :: ys))]) H' → RepV K ρ' H' (.ref h.length) v → Q v H' := p
    show ∀ ρ' v H', Ext ρ H ρ' H' → RelH K ρ' (h ++ [.lst (acc ++ [y] ++ ys)]) H' → RepV K ρ' H' (.ref h.length) v → Q v H'
    rw [List.append_assoc]
    exact p'
  | .exc _ _, p => p
  | .stuck, p => p
/-- a turn of a comprehension -/
theorem lc_turn {W : WX} {tg : TG} {tt : TT} {g : MG} {mt : MT} {me : ME} {ρ0 ρ : Rho} {env : Ev} {ih : IH} {σ : L2.St} {H0 H : Hp} {Q : VK} {acc : List D} {av : List V} {D' : Addr} {d : D} {v : V} {k : IH → R (List D)} {N : Hp → Prop} {i : Nat}
    (hg : ∀ ρ env ih σ H Q d v env', Rel X.K xp ρ env ih σ H → RepV X.K ρ H d v → g d env = some env' → (∀ σ', Rel X.K xp ρ env' ih σ' H → L2.wipe σ' vs = L2.wipe σ vs → Q σ' H) → tg v σ H Q)
    (ht : ∀ ρ env ih σ H Q, Rel X.K xp ρ env ih σ H → PostT X.K X.mg (fun _ _ _ _ => False) ρ σ H Q (mt env ih) → tt σ H Q)
    (rl : Rel X.K xp ρ env ih (L2.wipe σ vs) H) (x0 : Ext ρ0 H0 ρ H) (hD0 : H0 D' = none) (hD : H D' = some (.lst av)) (hDρ : D' ∉ ρ.as) (ra : RepL X.K ρ H acc av) (hi : acc.length ≤ i) (hm : i < MOST) (rv : RepV X.K ρ H d v)
    (post : Rest X.K X.mg W ρ0 σ H0 Q acc (match g d env with
      | none => .stuck
      | some e => (mt e ih).bindG (fun _ _ => .stuck) .stuck fun b h => if b = true then (me e h).bindG (fun _ _ => .stuck) .stuck fun y h => (k h).bind fun ys h => .ok (y :: ys) h else k h))
    (hN : ∀ ρ ih H acc av, Ext ρ0 H0 ρ H → RelH X.K ρ ih H → H D' = some (.lst av) → D' ∉ ρ.as → RepL X.K ρ H acc av → acc.length ≤ i + 1 → Rest X.K X.mg W ρ0 σ H0 Q acc (k ih) → N H) 
    (keepE : ∀ {ρ' : Rho} {H' : Hp}, Ext ρ H ρ' H' → D' ∉ ρ'.as ∧ H' D' = some (.lst av)) :
    tg v (L2.wipe σ vs) H fun σ2 H2 => L2.wipe σ2 vs = L2.wipe σ vs ∧ tt σ2 H2 fun b H3 => if b = true then canE X.K X.mg xp me σ2 H3 fun y H4 => ∃ acc, H4 D' = some (.lst acc) ∧ acc.length < sizeLine ∧ N (upd H4 D' (.lst (acc ++ [y]))) else N H3 := by
  split at post
  · exact post.elim
  · rename_i e q
    refine hg ρ env ih _ H _ d v e rl rv q fun σ1 r1 w1 => ⟨w1.trans wipe_idem, ht ρ e ih σ1 H _ r1 ?_⟩
    revert post
    cases hmt : mt e ih with
    | exc x h => exact fun post => post.elim
    | stuck => exact fun post => post.elim
    | ok b h1 =>
      intro post ρ1 H1 x1 rh1
      obtain ⟨hD1, hv1⟩ := keepE x1
      cases b with
      | false => exact hN ρ1 h1 H1 acc av (x0.trans x1) rh1 hv1 hD1 (ra.ext x1) (by omega) post
      | true =>
        have rl1 := r1.next x1 rh1
        refine ⟨ρ1, e, h1, rl1, ?_⟩
        have post : Rest X.K X.mg W ρ0 σ H0 Q acc ((me e h1).bindG (fun _ _ => .stuck) .stuck fun y h => (k h).bind fun ys h => .ok (y :: ys) h) := post
        revert post
        cases hme : me e h1 with
        | exc x h => exact fun post => post.elim
        | stuck => exact fun post => post.elim
        | ok y h2 =>
          intro post ρ2 u H2 x2 rh2 ru
          obtain ⟨hD2, hv2⟩ := keepE (x1.trans x2)
          have ra2 := ra.ext (x1.trans x2)
          refine ⟨av, hv2, by rw [← ra.length, sizeLine_eq]; unfold MOST at hm; omega, ?_⟩
          have x3 : Ext ρ0 H0 ρ2 H2 := (x0.trans x1).trans x2
          refine hN ρ2 h2 _ (acc ++ [y]) (av ++ [u]) ⟨x3.pre, x3.new, fun b o eb hb => ?_, fun b o eb => ?_, fun b o w eb => ?_, fun b o eb => ?_⟩ (rh2.put hv2 hD2) upd_same hD2 ((ra2.append (.cons ru .nil)).mon (Mon.put hv2)) (by simp; omega) (Rest.cons post)
          · rw [upd_ne (by rintro rfl; rw [hD0] at eb; cases eb)]; exact x3.keep b o eb hb
          · rw [upd_ne (by rintro rfl; rw [hD0] at eb; cases eb)]; exact x3.tups b o eb
          · rw [upd_ne (by rintro rfl; rw [hD0] at eb; cases eb)]; exact x3.frzs b o w eb
          · rw [upd_ne (by rintro rfl; rw [hD0] at eb; cases eb)]; exact x3.xds b o eb
theorem Rest.base {K : PySem.W.Frag} {mg : Str → Option Value} {W W' : WX} {ρ ρ1 : Rho} {σ : L2.St} {H H1 : Hp} {Q : VK} (x : Ext ρ H ρ1 H1) : ∀ {r : R (List D)}, PostE K mg W ρ σ H Q (r.bindG (fun _ _ => .stuck) .stuck fun ys h => newL h ys) → Rest K mg W' ρ1 σ H1 Q [] r
  | .ok _ _, p => fun ρ' v H' y rl rv => p ρ' v H' (x.trans y) rl rv
  | .exc _ _, p => p
  | .stuck, p => p
theorem Rest.fin {K : PySem.W.Frag} {mg : Str → Option Value} {W : WX} {ρ0 ρ : Rho} {σ : L2.St} {H0 H : Hp} {Q : VK} {acc : List D} {av : List V} {D' : Addr} {ih : IH} (p : Rest K mg W ρ0 σ H0 Q acc (.ok [] ih)) (x : Ext ρ0 H0 ρ H) (rh : RelH K ρ ih H)
    (hD0 : H0 D' = none) (hD : H D' = some (.lst av)) (hDρ : D' ∉ ρ.as) (ra : RepL K ρ H acc av) : Q (.ref D') H := by
  refine p ⟨ρ.as ++ [D']⟩ (.ref D') H ⟨x.pre.trans (List.prefix_append _ _), fun a z => ?_, x.keep, x.tups, x.frzs, x.xds⟩ ?_ (.ref ?_)
  · rcases List.mem_append.mp z with z | z
    · exact x.new a z
    · rw [List.mem_singleton.mp z]; exact .inr hD0
  · rw [List.append_nil]; exact rh.own hD hDρ ra
  · show (ρ.as ++ [D'])[ih.length]? = some D'
    rw [← rh.len]; simp
theorem keep_of {ρ : Rho} {H : Hp} {D' : Addr} {av : List V} (hD : H D' = some (.lst av)) (hDρ : D' ∉ ρ.as) {ρ' : Rho} {H' : Hp} (x : Ext ρ H ρ' H') : D' ∉ ρ'.as ∧ H' D' = some (.lst av) :=
  ⟨fun z => (x.new _ z).elim hDρ (fun q => by rw [hD] at q; cases q), x.keep _ _ hD hDρ⟩
theorem lc_red {W : WX} {wi : TI} {tG : TG} {tT : TT} {mi : MI} {g : MG} {mt : MT} {me : ME} {ρ : Rho} {env : Ev} {ih : IH} {σ : L2.St} {H : Hp} {Q : VK}
    (hi : ∀ ρ env ih σ H Q, Rel X.K xp ρ env ih σ H → PostI X.K X.mg W ρ σ H Q (mi env ih) → wi σ H Q)
    (hG : ∀ ρ env ih σ H Q d v env', Rel X.K xp ρ env ih σ H → RepV X.K ρ H d v → g d env = some env' → (∀ σ', Rel X.K xp ρ env' ih σ' H → L2.wipe σ' vs = L2.wipe σ vs → Q σ' H) → tG v σ H Q)
    (hT : ∀ ρ env ih σ H Q, Rel X.K xp ρ env ih σ H → PostT X.K X.mg (fun _ _ _ _ => False) ρ σ H Q (mt env ih) → tT σ H Q)
    (rl : Rel X.K xp ρ env ih σ H) (post : PostE X.K X.mg W ρ σ H Q (lcM mi vs g mt me env ih)) : tLc wi tG tT (canE X.K X.mg xp me) vs σ H Q := by
  refine hi ρ env ih σ H _ rl ?_
  unfold lcM at post
  revert post
  cases mi env ih with
  | exc x h => exact fun post => post
  | stuck => exact fun post => post
  | ok s h1 =>
    intro post ρ1 J H1 x1 r1 it D' hD'
    have rw1 : Rel X.K xp ρ1 (wipeE env vs) h1 (L2.wipe σ vs) H1 := (rl.wipe vs).next x1 r1
    have hDρ : D' ∉ ρ1.as := fun z => by
      obtain ⟨o, e⟩ := r1.ne_none z
      rw [hD'] at e; cases e
    cases s with
    | snap ds =>
      have post : PostE X.K X.mg W ρ σ H Q (if ds.length ≤ MOST then (lcS g mt me (wipeE env vs) ds h1).bindG (fun _ _ => .stuck) .stuck fun ys h => newL h ys else .stuck) := post
      split at post
      · rename_i hm
        have it : ItS X.K J ρ1 H1 ds := it
        refine ⟨fun i m H => ∃ ρ ih acc av, i + m = ds.length ∧ Ext ρ1 H1 ρ H ∧ RelH X.K ρ ih H ∧ H D' = some (.lst av) ∧ D' ∉ ρ.as ∧ RepL X.K ρ H acc av ∧ acc.length ≤ i ∧ Rest X.K X.mg W ρ1 σ H1 Q acc (lcS g mt me (wipeE env vs) (ds.drop i) ih), ⟨ds.length, ρ1, h1, [], [], by omega, Ext.fresh hD', r1.aside hD', upd_same, hDρ, .nil, Nat.zero_le _, Rest.base x1 post⟩, ?_⟩
        rintro i m H2 ⟨ρ2, ih2, acc, av, him, x2, r2, hD2, hn2, ra2, hl2, post2⟩
        cases hd : ds[i]? with
        | none =>
          have hge := List.getElem?_eq_none_iff.mp hd
          have e : i = ds.length := by omega
          rw [e, List.drop_length] at post2
          rw [e]
          exact .inl ⟨it.stop ρ2 H2 x2, Rest.fin post2 x2 r2 hD' hD2 hn2 ra2⟩
        | some d =>
          have hlt := (List.getElem?_eq_some_iff.mp hd).1
          obtain ⟨go, yl⟩ := it.go i d ρ2 H2 ih2 x2 r2 hd
          refine .inr ⟨go, fun H' => ∃ ρ ih acc av, Ext ρ1 H1 ρ H' ∧ RelH X.K ρ ih H' ∧ H' D' = some (.lst av) ∧ D' ∉ ρ.as ∧ RepL X.K ρ H' acc av ∧ acc.length ≤ i + 1 ∧ Rest X.K X.mg W ρ1 σ H1 Q acc (lcS g mt me (wipeE env vs) (ds.drop (i + 1)) ih),
            fun H' ⟨ρ', ih', acc', av', q1, q2, q3, q4, q5, q6, q7⟩ => ⟨ds.length - (i + 1), by omega, ρ', ih', acc', av', by omega, q1, q2, q3, q4, q5, q6, q7⟩, fun x H' y => ?_⟩
          obtain ⟨x3, r3, rv3⟩ := yl x H' y
          obtain ⟨hn3, hD3⟩ := keep_of hD2 hn2 x3
          have ed : ds.drop i = d :: ds.drop (i + 1) := by
            rw [List.drop_eq_getElem_cons hlt, (List.getElem?_eq_some_iff.mp hd).2]
          rw [ed] at post2
          exact lc_turn (X := X) (W := W) (k := fun h => lcS g mt me (wipeE env vs) (ds.drop (i + 1)) h) (N := fun H' => ∃ ρ ih acc av, Ext ρ1 H1 ρ H' ∧ RelH X.K ρ ih H' ∧ H' D' = some (.lst av) ∧ D' ∉ ρ.as ∧ RepL X.K ρ H' acc av ∧ acc.length ≤ i + 1 ∧ Rest X.K X.mg W ρ1 σ H1 Q acc (lcS g mt me (wipeE env vs) (ds.drop (i + 1)) ih)) (i := i) hG hT (rw1.next (x2.trans x3) r3) (x2.trans x3) hD' hD3 hn3 (ra2.ext x3) hl2 (by omega) rv3 post2
            (fun ρ ih H acc av a1 a2 a3 a4 a5 a6 a7 => ⟨ρ, ih, acc, av, a1, a2, a3, a4, a5, a6, a7⟩) (fun {ρ' H'} x => keep_of hD3 hn3 x)
      · exact post.elim
    | live v =>
      have post : PostE X.K X.mg W ρ σ H Q ((lcV g mt me (wipeE env vs) v MOST 0 h1).bindG (fun _ _ => .stuck) .stuck fun ys h => newL h ys) := post
      have it : ItV X.K J ρ1 H1 v := it
      refine ⟨fun i m H => ∃ ρ ih acc av, i + m = MOST ∧ Ext ρ1 H1 ρ H ∧ RelH X.K ρ ih H ∧ H D' = some (.lst av) ∧ D' ∉ ρ.as ∧ RepL X.K ρ H acc av ∧ acc.length ≤ i ∧ Rest X.K X.mg W ρ1 σ H1 Q acc (lcV g mt me (wipeE env vs) v m i ih), ⟨MOST, ρ1, h1, [], [], by omega, Ext.fresh hD', r1.aside hD', upd_same, hDρ, .nil, Nat.zero_le _, Rest.base x1 post⟩, ?_⟩
      rintro i m H2 ⟨ρ2, ih2, acc, av, him, x2, r2, hD2, hn2, ra2, hl2, post2⟩
      cases m with
      | zero => exact post2.elim
      | succ m =>
        have post2 : Rest X.K X.mg W ρ1 σ H1 Q acc (match v ih2 with
          | none => .stuck
          | some ds => match ds[i]? with
            | none => .ok [] ih2
            | some d => match g d (wipeE env vs) with
              | none => .stuck
              | some e => (mt e ih2).bindG (fun _ _ => .stuck) .stuck fun b h => if b = true then (me e h).bindG (fun _ _ => .stuck) .stuck fun y h => (lcV g mt me (wipeE env vs) v m (i + 1) h).bind fun ys h => .ok (y :: ys) h else lcV g mt me (wipeE env vs) v m (i + 1) h) := post2
        cases hv : v ih2 with
        | none => rw [hv] at post2; exact post2.elim
        | some ds =>
          rw [hv] at post2
          cases hd : ds[i]? with
          | none =>
            simp only [hd] at post2
            exact .inl ⟨it.stop i ρ2 H2 ih2 ds x2 r2 hv hd, Rest.fin post2 x2 r2 hD' hD2 hn2 ra2⟩
          | some d =>
            simp only [hd] at post2
            obtain ⟨go, yl⟩ := it.go i d ρ2 H2 ih2 ds x2 r2 hv hd
            refine .inr ⟨go, fun H' => ∃ ρ ih acc av, Ext ρ1 H1 ρ H' ∧ RelH X.K ρ ih H' ∧ H' D' = some (.lst av) ∧ D' ∉ ρ.as ∧ RepL X.K ρ H' acc av ∧ acc.length ≤ i + 1 ∧ Rest X.K X.mg W ρ1 σ H1 Q acc (lcV g mt me (wipeE env vs) v m (i + 1) ih),
              fun H' ⟨ρ', ih', acc', av', q1, q2, q3, q4, q5, q6, q7⟩ => ⟨m, by omega, ρ', ih', acc', av', by omega, q1, q2, q3, q4, q5, q6, q7⟩, fun x H' y => ?_⟩
            obtain ⟨x3, r3, rv3⟩ := yl x H' y
            obtain ⟨hn3, hD3⟩ := keep_of hD2 hn2 x3
            exact lc_turn (X := X) (W := W) (k := fun h => lcV g mt me (wipeE env vs) v m (i + 1) h) (N := fun H' => ∃ ρ ih acc av, Ext ρ1 H1 ρ H' ∧ RelH X.K ρ ih H' ∧ H' D' = some (.lst av) ∧ D' ∉ ρ.as ∧ RepL X.K ρ H' acc av ∧ acc.length ≤ i + 1 ∧ Rest X.K X.mg W ρ1 σ H1 Q acc (lcV g mt me (wipeE env vs) v m (i + 1) ih)) (i := i) hG hT (rw1.next (x2.trans x3) r3) (x2.trans x3) hD' hD3 hn3 (ra2.ext x3) hl2 (by omega) rv3 post2
              (fun ρ ih H acc av a1 a2 a3 a4 a5 a6 a7 => ⟨ρ, ih, acc, av, a1, a2, a3, a4, a5, a6, a7⟩) (fun {ρ' H'} x => keep_of hD3 hn3 x)
theorem s_lc {elt tg iter : Expr} {ifs : List Expr} {mi : MI} {g : MG} {mt : MT} {me : ME} {own : List (Str × Nat)} {vs : List Nat} (ho : own.map (·.2) = vs) (hc : X.calm = true) (hN : X.N.Nodup) (I : SI xp X tg iter mi) (ok : BlkOk X.N X.env.scope scope own)
    (G : SGF xp X.K (Blk X scope) vs tg g) (C : STF xp X.K X.mg (Blk X scope) ifs mt) (E : ∀ s H C cl fp, SE xp (Blk X scope s H C cl fp) elt me) (hs : ∀ x, foldedSetIterable iter X.env x = pure x := by intro _; rfl) :
    SE xp X (.ListComp elt [⟨tg, iter, ifs, 0⟩] scope pos) (lcM mi vs g mt me) := fun W tk => by
  subst ho
  obtain ⟨wi, pi, hi⟩ := I W tk
  obtain ⟨tG, pG, hG⟩ := G
  obtain ⟨tT, pT, hT⟩ := C
  refine ⟨tLc wi tG tT (canE X.K X.mg xp me) (own.map (·.2)), pe_lc hc hN pi ok pG pT (fun s H C cl fp => (E s H C cl fp).can) hs, fun ρ env ih σ H Q rl post => ?_⟩
  exact lc_red hi hG hT rl post
end
end Z
/-! Z13: all, any, isqrt, lcm, in, three names at once, slices, methods of lists. -/
namespace Z
open PySem PySem.Spec PyProof.Rows L2
section
variable {xp : Option XP} {X : Cx} {a b e : Expr} {es : List Expr} {ma mb : ME} {ms : MA} {pos : Pos}
/-! ### all, any -/
def lisOf (h : IH) : D → Option (List D)
  | .fz ds => some ds
  | .ref n => match h[n]? with
    | some (.lst ds) => some ds
    | _ => none
  | _ => none
def bls : List D → Option (List Bool)
  | [] => some []
  | d :: ds => match d, bls ds with
    | .bl b, some bs => some (b :: bs)
    | _, _ => none
theorem lisOf_ok {K : PySem.W.Frag} {ρ : Rho} {ih : IH} {H : Hp} (rl : RelH K ρ ih H) {d : D} {v : V} {ds : List D} (q : lisOf ih d = some ds) (r : RepV K ρ H d v) : ∃ a vs, v = .ref a ∧ SqL K H a vs ∧ RepL K ρ H ds vs := by
  cases r with
  | fz h1 h2 => cases q; exact ⟨_, _, rfl, h1.sq, h2⟩
  | @ref n a h1 =>
    have q' : (match ih[n]? with
      | some (.lst ds) => some ds
      | _ => none) = some ds := q
    split at q'
    · rename_i ds hn
      cases q'
      obtain ⟨vs, hv, r⟩ := rl.lst h1 hn
      exact ⟨a, vs, rfl, SqL.of hv, r⟩
    · cases q'
  | _ => cases q
theorem bls_ok {K : PySem.W.Frag} {ρ : Rho} {H : Hp} : ∀ {ds : List D} {vs : List V} {bs : List Bool}, bls ds = some bs → RepL K ρ H ds vs → vs = bs.map V.bl
  | [], _, _, e, .nil => by cases e; rfl
  | d :: ds, _, _, e, .cons r t => by
    unfold bls at e
    split at e
    · rename_i b bs h1
      cases e
      cases r
      rw [bls_ok h1 t]; rfl
    · cases e
def allF : MF := fun ds h => match ds with
  | [d] => match (lisOf h d).bind bls with
    | some bs => .ok (.bl (bs.all id)) h
    | none => .stuck
  | _ => .stuck
theorem c_all (hc : X.calm = true) : SC X (.builtin "all") allF := ⟨_, cr_all hc, fun W ρ ih H σ Q ds vs rl rv post => by
  unfold allF at post
  split at post
  · cases rv with
    | cons q t =>
      cases t
      split at post
      · rename_i bs e
        obtain ⟨xs, e1, e2⟩ := Option.bind_eq_some_iff.mp e
        obtain ⟨a, vs, rfl, h1, h2⟩ := lisOf_ok rl e1 q
        exact ⟨a, bs, rfl, by rw [← bls_ok e2 h2]; exact h1, post ρ _ H .refl rl (.bl _)⟩
      · exact post.elim
  · exact post.elim⟩
/-! ### isqrt, lcm -/
def isqrtF : MF := fun ds h => match ds with
  | [.int i] => if 0 ≤ i ∧ i.toNat.log2 < 13000 then .ok (.int ((Float64.isqrt i.toNat : Nat) : Int)) h else .stuck
  | _ => .stuck
def rIsqrt : List V → Hp → VK → Prop := fun vs H Q => ∃ a : Int, vs = [.int a] ∧ 0 ≤ a ∧ a.toNat.log2 < 13000 ∧ Q (.int ((Float64.isqrt a.toNat : Nat) : Int)) H
theorem cr_isqrt : CallR X (.builtin "math.isqrt") rIsqrt := by
  intro pins s σ H vs us Q I r h
  obtain ⟨a, rfl, h0, h1, q⟩ := h
  obtain ⟨u, rfl, ru⟩ := r.one
  obtain ⟨t, rfl⟩ := ru
  exact PySem.call_function_meets PySem.W.MGF.kind_isqrt PySem.W.MGF.plain_isqrt PySem.W.MGF.entry_isqrt (PySem.W.MGF.args_isqrt _) (PySem.W.mg_run_isqrt a t (by omega) (by omega) (by omega)).meets ⟨.int _, H, I.tok _, ⟨_, rfl⟩, q⟩
theorem c_isqrt : SC X (.builtin "math.isqrt") isqrtF := ⟨_, cr_isqrt, fun W ρ ih H σ Q ds vs rl rv post => by
  unfold isqrtF at post
  split at post
  · cases rv with
    | cons q t =>
      cases t
      cases q
      split at post
      · rename_i c
        exact ⟨_, rfl, c.1, c.2, post ρ _ H .refl rl (.int _)⟩
      · exact post.elim
  · exact post.elim⟩
/-! ### in -/
def inB (h : IH) (d e : D) : Option Bool := match pd pdK h d, (lisOf h e).bind fun xs => pdL (pd pdK h) xs with
  | some p, some qs => if SeqAt.shaped p = true ∧ SeqAt.shaped (.list qs) = true then some (qs.any fun z => PyData.eqv z p) else none
  | _, _ => none
/-- a flat value -/
def vOf : D → Option V
  | .non => some .non
  | .bl b => some (.bl b)
  | .int i => some (.int i)
  | .str x => some (.str x)
  | _ => none
def vsOf : List D → Option (List V)
  | [] => some []
  | d :: ds => match vOf d, vsOf ds with
    | some v, some vs => some (v :: vs)
    | _, _ => none
theorem vOf_ok {K : PySem.W.Frag} {ρ : Rho} {H : Hp} {d : D} {v u : V} (e : vOf d = some u) (r : RepV K ρ H d v) : v = u ∧ flatV u = true := by
  cases r <;> cases e <;> exact ⟨rfl, rfl⟩
theorem vsOf_ok {K : PySem.W.Frag} {ρ : Rho} {H : Hp} : ∀ {ds : List D} {vs us : List V}, vsOf ds = some us → RepL K ρ H ds vs → vs = us ∧ us.all flatV = true
  | [], _, _, e, .nil => by cases e; exact ⟨rfl, rfl⟩
  | d :: ds, _, _, e, .cons r t => by
    unfold vsOf at e
    split at e
    · rename_i v vs e1 e2
      cases e
      obtain ⟨rfl, h1⟩ := vOf_ok e1 r
      obtain ⟨rfl, h2⟩ := vsOf_ok e2 t
      exact ⟨rfl, by rw [List.all_cons, h1, h2]; rfl⟩
    · cases e
def inT (d e : D) : Option Bool := match e with
  | .tup ds => match vOf d, vsOf ds with
    | some u, some us => some (inV u us)
    | _, _ => none
  | _ => none
/-- x in a tuple of data of any depth -/
def inBT (h : IH) (d e : D) : Option Bool := match e with
  | .tup xs => match pd pdK h d, pdL (pd pdK h) xs with
    | some p, some qs => if SeqAt.shaped p = true ∧ SeqAt.shaped (.tuple qs) = true then some (qs.any fun z => PyData.eqv z p) else none
    | _, _ => none
  | _ => none
def inM (neg : Bool) : MO := fun d e h => match inT d e with
  | some b => .ok (.bl (if neg = true then !b else b)) h
  | none => match inB h d e with
    | some b => .ok (.bl (if neg = true then !b else b)) h
    | none => match inBT h d e with
      | some b => .ok (.bl (if neg = true then !b else b)) h
      | none => .stuck
def rInT (K : PySem.W.Frag) (neg : Bool) : R2 := fun x y H Q => ∃ d ds, Dp K H x d ∧ Dp K H y (.tuple ds) ∧ SeqAt.shaped d = true ∧ SeqAt.shaped (.tuple ds) = true ∧ Q (.bl (if neg = true then !(ds.any fun z => PyData.eqv z d) else ds.any fun z => PyData.eqv z d)) H
theorem op_notInBT {X : Cx} (hu : X.A.units + 65 < cLine) : OpR X (compareOp .NotIn) (rInT X.K true) := by
  intro pins s σ H x y v u Q I rx ry h
  obtain ⟨d, ds, hd, he, sd, se, q⟩ := h
  obtain ⟨as, r1⟩ := Dp.reads I d x v hd rx
  obtain ⟨bs, r2⟩ := Dp.reads I (.tuple ds) y u he ry
  exact SeqAt.notIn_tuple_reads r2 r1 (SeqAt.canLay_of_shaped se) (SeqAt.canLay_of_shaped sd) (room_in_shaped sd hu) ⟨.bl _, H, I, rfl, q⟩
theorem inBT_of {K : PySem.W.Frag} {ρ : Rho} {H : Hp} {ih : IH} (rl : RelH K ρ ih H) {d e : D} {x y : V} {b : Bool} (q : inBT ih d e = some b) (hd : RepV K ρ H d x) (he : RepV K ρ H e y) :
    ∃ p qs, Dp K H x p ∧ Dp K H y (.tuple qs) ∧ SeqAt.shaped p = true ∧ SeqAt.shaped (.tuple qs) = true ∧ (qs.any fun z => PyData.eqv z p) = b := by
  unfold inBT at q
  split at q
  · split at q
    · rename_i p qs e1 e2
      split at q
      · rename_i c
        cases q
        cases he with
        | tup h1 h2 => exact ⟨p, qs, pd_dp rl e1 hd, .tup h1 (pdL_all (fun d p v => pd_dp rl) e2 h2), c.1, c.2, rfl⟩
      · cases q
    · cases q
  · cases q
theorem inT_of {K : PySem.W.Frag} {ρ : Rho} {H : Hp} {d e : D} {x y : V} {b : Bool} (q : inT d e = some b) (hd : RepV K ρ H d x) (he : RepV K ρ H e y) : ∃ p xs, y = .ref p ∧ SqT K H p xs ∧ flatV x = true ∧ xs.all flatV = true ∧ inV x xs = b := by
  unfold inT at q
  split at q
  · cases he with
    | tup h1 h2 =>
      split at q
      · rename_i u us e1 e2
        cases q
        obtain ⟨rfl, f1⟩ := vOf_ok e1 hd
        obtain ⟨rfl, f2⟩ := vsOf_ok e2 h2
        exact ⟨_, _, rfl, h1, f1, f2, rfl⟩
      · cases q
  · cases q
theorem inB_of {K : PySem.W.Frag} {ρ : Rho} {H : Hp} {ih : IH} (rl : RelH K ρ ih H) {d e : D} {x y : V} {b : Bool} (q : inB ih d e = some b) (hd : RepV K ρ H d x) (he : RepV K ρ H e y) :
    ∃ p qs, Dp K H x p ∧ Dp K H y (.list qs) ∧ SeqAt.shaped p = true ∧ SeqAt.shaped (.list qs) = true ∧ (qs.any fun z => PyData.eqv z p) = b := by
  unfold inB at q
  split at q
  · rename_i p qs e1 e2
    split at q
    · rename_i c
      cases q
      obtain ⟨xs, e3, e4⟩ := Option.bind_eq_some_iff.mp e2
      obtain ⟨a, vs, rfl, h1, h2⟩ := lisOf_ok rl e3 he
      exact ⟨p, qs, pd_dp rl e1 hd, .lst h1 (pdL_all (fun d p v => pd_dp rl) e4 h2), c.1, c.2, rfl⟩
    · cases q
  · cases q
theorem o_notin (hu : X.A.units + 65 < cLine) : SO X (compareOp .NotIn) (inM true) := ⟨_, ((op_notInD hu).or op_notIn_seq).or (op_notInBT hu), fun W ρ ih H σ Q d e x y rl hd he post => by
  unfold inM at post
  split at post
  · rename_i b q
    obtain ⟨p, xs, h1, h2, h3, h4, h5⟩ := inT_of q hd he
    subst h5
    exact .inl (.inr ⟨p, xs, h1, .inr h2, h3, h4, post ρ _ H .refl rl (.bl _)⟩)
  · split at post
    · rename_i b q
      obtain ⟨p, q', h1, h2, h3, h4, h5⟩ := inB_of rl q hd he
      subst h5
      exact .inl (.inl ⟨p, q', h1, h2, h3, h4, post ρ _ H .refl rl (.bl _)⟩)
    · split at post
      · rename_i b q
        obtain ⟨p, q', h1, h2, h3, h4, h5⟩ := inBT_of rl q hd he
        subst h5
        exact .inr ⟨p, q', h1, h2, h3, h4, post ρ _ H .refl rl (.bl _)⟩
      · exact post.elim⟩
/-! ### a, b, c = x, y, z -/
def parM3 (i j l : Nat) (ms : MA) : MS := fun env h => (ms env h).thenS env fun ds h => match ds with
  | [d, e, f] => .nx (((env.set i (some d)).set j (some e)).set l (some f)) h
  | _ => .stuck
theorem st_par3 {i j l : Nat} {x y z : Str} {a b c : Expr} {ms : MA} {px py pz pt : Pos} {kt k2 pt2} (hc : X.calm = true) (hN : X.N.Nodup) (hi : X.N[i]? = some x) (hj : X.N[j]? = some y) (hl : X.N[l]? = some z) (hij : i ≠ j) (hil : i ≠ l) (hjl : j ≠ l)
    (hx : X.env.scope.names.lookup x = some .local) (hy : X.env.scope.names.lookup y = some .local) (hz : X.env.scope.names.lookup z = some .local) (A : SA xp X [a, b, c] ms)
    (hw : swappedStores [.Tuple [.Name x px, .Name y py, .Name z pz] kt pt] (.Tuple [a, b, c] k2 pt2) X.env = pure (some [x, y, z]))
    (hs : swapsWithSole [.Tuple [.Name x px, .Name y py, .Name z pz] kt pt] (.Tuple [a, b, c] k2 pt2) pos.line X.env = pure false := by rfl) :
    SS xp X (.Assign [.Tuple [.Name x px, .Name y py, .Name z pz] kt pt] (.Tuple [a, b, c] k2 pt2) pos) (parM3 i j l ms) := fun W tk => by
  obtain ⟨ta, pa, ha⟩ := A W tk
  refine ⟨_, ps_par3 hc hN hi hj hl hij hil hjl hx hy hz pa hw hs, fun ρ env ih σ H N rl post => ?_⟩
  refine fstA (ta := ta) ha rl (lkS (N := N) rl) post fun ρ1 ds h1 vs H1 e1 r1 p1 post => ?_
  split at post
  · cases p1 with
    | cons q1 t =>
      cases t with
      | cons q2 t =>
        cases t with
        | cons q3 t =>
          cases t
          exact ⟨_, _, _, rfl, post ρ1 _ H1 .refl ((((rl.next e1 r1).set i q1).set j q2).set l q3)⟩
  · exact post.elim
/-! ### slices -/
theorem RepL.take {K : PySem.W.Frag} {ρ : Rho} {H : Hp} : ∀ {ds : List D} {vs : List V} (n : Nat), RepL K ρ H ds vs → RepL K ρ H (ds.take n) (vs.take n)
  | _, _, 0, _ => .nil
  | _, _, _ + 1, .nil => .nil
  | _, _, n + 1, .cons r t => .cons r (RepL.take n t)
theorem RepL.drop {K : PySem.W.Frag} {ρ : Rho} {H : Hp} : ∀ {ds : List D} {vs : List V} (n : Nat), RepL K ρ H ds vs → RepL K ρ H (ds.drop n) (vs.drop n)
  | _, _, 0, r => r
  | _, _, _ + 1, .nil => .nil
  | _, _, n + 1, .cons _ t => RepL.drop n t
/-! ### methods of lists -/
abbrev MMt := D → List D → IH → R D
variable {o : Expr} {mo : ME} {name : Str} {apos cpos : Pos} {id : String} {m : MMt}
theorem FS.ali {P : Program} {w : World} {K : PySem.W.Frag} {mg : Str → Option Value} {base : Heap} {x y : Str} {k n : Nat} {F : MF} {u : Value} (f : FS P w K mg base y k n F) (hy : mg y = some u) (hx : mg x = some u) : FS P w K mg base x k n F := by
  obtain ⟨a, fd, ps, h1, h2⟩ := f.ex
  rw [hy] at h1
  exact ⟨a, fd, ps, by rw [hx]; exact h1, h2⟩
/-- a def that is not reached -/
theorem fs_stuck {P : Program} {w : World} {K : PySem.W.Frag} {mg : Str → Option Value} {base : Heap} {x qual : Str} {params : Arguments} {body : List Stmt} {scope : Scope} {f : Addr} {fd : FuncData} {ps : List Str} {k : Nat} (F : FunD K x qual params body scope [] [] f fd) (hm : mg x = some (.ref f)) (hb : Binds K fd ps []) :
    FS P w K mg base x k ps.length (fun _ _ => .stuck) := ⟨f, fd, ps, hm, F.kp, hb, fun vs H Q E h => by
    obtain ⟨_, _, _, _, _, _, post⟩ := h
    exact post.elim, fun A outer s H args us vs Q E _ _ _ _ h => by
    obtain ⟨_, _, _, _, _, _, post⟩ := h
    exact post.elim⟩
theorem hu65 {k : Nat} {A : Around} (r : Room k A) : A.units + 65 < cLine := by have := r.un; omega
end
end Z
/-! Z14: walks over lists that are objects, evaluated. -/
namespace Z
open PySem PySem.Spec PyProof.Rows L2
section
variable {env : Ev} {h : IH} {g : MG} {mb : MS} {d : D} {ds : List D} {n i k : Nat}
end
end Z
/-! Z15: enumerate of a tuple, which the layer below lacks. -/
namespace Zt
open PySem PySem.Spec PyProof.Rows L2
open AutoSeq1 (wpAny_loadPart')
section
variable {prog : Program} {w : World} {A : Around} {E : Value → Shared → Prop} {s : Shared}
end
end Zt
/-! Z16: tuple(x); enumerate, zip; instances of own classes. -/
namespace Z
open PySem PySem.Spec PyProof.Rows L2
section
variable {xp : Option XP} {X : Cx} {a b e o : Expr} {es : List Expr} {ma mb mo : ME} {ms : MA} {p pos : Pos} {tg : Expr}
/-! ### tuple(x) -/
/-! ### enumerate -/
/-! ### zip of a list and a tuple -/
/-! ### zip -/
/-! ### fields of instances -/
def insAt (h : IH) : D → Option (Nat × Str × List (Str × D))
  | .ref n => match h[n]? with
    | some (.ins c fs) => some (n, c, fs)
    | _ => none
  | _ => none
theorem RepF.none {K : PySem.W.Frag} {ρ : Rho} {H : Hp} {f : Str} : ∀ {ds : List (Str × D)} {vs : List (Str × V)}, RepF K ρ H ds vs → ds.lookup f = none → vs.lookup f = none
  | _, _, .nil, _ => rfl
  | _, _, .cons (f := g) r t, h => by
    rw [List.lookup_cons] at h ⊢
    cases c : (f == g) with
    | true => rw [c] at h; cases h
    | false => rw [c] at h; exact RepF.none t h
def fldM (fok : Str → Str → Bool) (f : Str) (ma : ME) : ME := fun env h => (ma env h).bind fun d h => match insAt h d with
  | some (_, c, fs) => if fok c f = true then (match fs.lookup f with
    | some v => .ok v h
    | none => .stuck) else .stuck
  | none => .stuck
def putD (f : Str) (d : D) : List (Str × D) → List (Str × D)
  | [] => [(f, d)]
  | (g, x) :: r => if g = f then (g, d) :: r else (g, x) :: putD f d r
theorem RepF.put {K : PySem.W.Frag} {ρ : Rho} {H : Hp} {f : Str} {d : D} {v : V} (r : RepV K ρ H d v) : ∀ {ds : List (Str × D)} {vs : List (Str × V)}, RepF K ρ H ds vs → RepF K ρ H (putD f d ds) (putF f v vs)
  | _, _, .nil => .cons r .nil
  | _, _, .cons (f := g) q t => by
    unfold putD putF
    split
    · exact .cons r t
    · exact .cons q (RepF.put r t)
theorem RepF.length {K : PySem.W.Frag} {ρ : Rho} {H : Hp} : ∀ {ds : List (Str × D)} {vs : List (Str × V)}, RepF K ρ H ds vs → ds.length = vs.length
  | _, _, .nil => rfl
  | _, _, .cons _ t => congrArg Nat.succ (RepF.length t)
end
/-! ### methods -/
/-- the method m of the class named c does F, for n arguments (itself the first), in k levels -/
structure FM (P : Program) (w : World) (K : PySem.W.Frag) (mg : Str → Option Value) (base : Heap) (c m : Str) (k n : Nat) (F : MF) : Prop where
  ex : ∃ (f : Addr) (fd : FuncData) (ps : List Str), Cls K (He.ga K c) ∧ Meth K (He.ga K c) m f ∧ Binds K fd ps [] ∧ FnOk P w K mg base (L2.CX P w) k f fd ps (spF K mg n F)
section
variable {X : Cx} {CX : CXT} {k : Nat} {f C : Addr} {fd : FuncData} {ps : List Str} {sp : Sp} {E : L2.St → XK} {x m : Str} {p pos apos : Pos} {e o : Expr} {es : List Expr} {ta : TE} {t : TA}
end
section
variable {xp : Option XP} {X : Cx} {e o : Expr} {es : List Expr} {c m x : Str} {k j n : Nat} {F : MF} {ms : MA} {mo : ME} {p pos apos : Pos}
end
/-! ### making instances -/
/-- the class named c is made by an __init__ that does F, for n values (self the first); ks: the names of those that are given by keyword -/
structure FI (P : Program) (w : World) (K : PySem.W.Frag) (mg : Str → Option Value) (base : Heap) (c : Str) (k n : Nat) (ks : List Str) (F : MF) : Prop where
  ex : ∃ (f : Addr) (fd : FuncData) (ps : List Str), mg c = some (.ref (He.ga K c)) ∧ Mk K (He.ga K c) f ∧ KBn K fd ps (n - ks.length) ks (fun us ws => us ++ ws) (fun vs zs => vs ++ zs) ∧ FnOk P w K mg base (L2.CX P w) k f fd ps (spF K mg n F)
section
variable {X : Cx} {CX : CXT} {k n : Nat} {f C : Addr} {fd : FuncData} {ps ks : List Str} {sp : Sp} {E : L2.St → XK} {x : Str} {p pos : Pos} {e : Expr} {es : List Expr} {kws : List Keyword} {t tk : TA}
end
section
variable {xp : Option XP} {X : Cx} {e o : Expr} {es : List Expr} {c m x : Str} {k j n : Nat} {F : MF} {ms : MA} {ma : ME} {p pos kpos : Pos}
end
end Z
/-! Z17: comprehensions of two clauses. -/
namespace Z
open PySem PySem.Spec PyProof.Rows L2
section
variable {xp : Option XP} {X : Cx} {scope : Scope} {vs vs1 : List Nat} {pos : Pos}
/-- what is wanted of the heap at the end -/
def Fin2 (K : PySem.W.Frag) (ρ : Rho) (H : Hp) (Q : VK) (n : Nat) (r : Option IH) : Prop := match r with
  | some h => ∀ ρ' v H', Ext ρ H ρ' H' → RelH K ρ' h H' → RepV K ρ' H' (.ref n) v → Q v H'
  | none => False
theorem Fin2.some {K : PySem.W.Frag} {ρ : Rho} {H : Hp} {Q : VK} {n : Nat} : ∀ {r : Option IH} {f : IH → Option IH}, Fin2 K ρ H Q n (r.bind f) → ∃ h, r = some h ∧ Fin2 K ρ H Q n (f h)
  | .some h, _, p => ⟨h, rfl, p⟩
  | .none, _, p => p.elim
def canI (K : PySem.W.Frag) (mg : Str → Option Value) (xp : Option XP) (m : MI) : TI := fun σ H R => ∃ ρ env ih, Rel K xp ρ env ih σ H ∧ PostI K mg (fun _ _ _ _ => False) ρ σ H R (m env ih)
theorem SI.can {Y : Cx} {tg e : Expr} {m : MI} (S : SI xp Y tg e m) : PI Y tg e (canI Y.K Y.mg xp m) := by
  obtain ⟨t, pt, ht⟩ := S (fun _ _ _ _ => False) takes0
  exact ⟨fun pins s σ H R I ⟨ρ, env, ih, rl, post⟩ => pt.run pins s σ H R I (ht ρ env ih σ H R rl post)⟩
end
end Z
/-! Z18: isinstance of own classes; dicts of the top; sorted. -/
namespace Z
open PySem PySem.Spec PyProof.Rows L2
section
variable {xp : Option XP} {X : Cx} {a b e : Expr} {ma mb mo : ME} {ms : MA} {p pos : Pos}
/-! ### isinstance(e, C), C an own class -/
/-! ### sorted -/
theorem CallR.or {f : Value} {r r' : List V → Hp → VK → Prop} (h : CallR X f r) (g : CallR X f r') : CallR X f (fun vs H Q => r vs H Q ∨ r' vs H Q) := fun pins s σ H vs us Q I rv q => q.elim (h pins s σ H vs us Q I rv) (g pins s σ H vs us Q I rv)
theorem RepL.ints {K : PySem.W.Frag} {ρ : Rho} {H : Hp} : ∀ ns : List Int, RepL K ρ H (ns.map D.int) (ns.map V.int)
  | [] => .nil
  | i :: ns => .cons (.int i) (RepL.ints ns)
theorem RepL.mem {K : PySem.W.Frag} {ρ : Rho} {H : Hp} : ∀ {ds : List D} {vs : List V}, RepL K ρ H ds vs → ∀ v ∈ vs, ∃ d ∈ ds, RepV K ρ H d v
  | _, _, .nil, v, h => by cases h
  | _, _, .cons r t, v, h => by
    rcases List.mem_cons.mp h with rfl | h
    · exact ⟨_, List.mem_cons_self, r⟩
    · obtain ⟨d, h1, h2⟩ := RepL.mem t v h
      exact ⟨d, List.mem_cons_of_mem _ h1, h2⟩
/-! ### & -/
/-! ### x.get(k, d), x a dict of the top -/
end
/-! ### what the table says -/
section
variable {t : Tab} {K : PySem.W.Frag} {mg : Str → Option Value} {w : World}
def Tab.kitB (t : Tab) (T : Str) : String ⊕ Str → Option Bool
  | .inl s => (t.kit.find? fun p => decide (p.1 = T ∧ p.2.1 = s)).map (·.2.2)
  | .inr c => if c ∈ t.icl then (t.kio.find? fun p => decide (p.1 = T ∧ p.2.1 = c)).map (·.2.2) else none
/-- fields of these classes, named f -/
def okF (cs : List Str) (f : Str) : Str → Str → Bool := fun c g => decide (c ∈ cs ∧ g = f)
end
end Z
/-! Z19: dicts with keys of ints and texts, or tuples of ints. -/
namespace Z
open PySem PySem.Spec PyProof.Rows L2
/-! ### tables -/
section
variable {κ β : Type} [DecidableEq κ]
def getB (kvs : List (κ × β)) (k : κ) : Option β := (kvs.find? fun kv => decide (kv.1 = k)).map (·.2)
def putB (kvs : List (κ × β)) (k : κ) (v : β) : List (κ × β) :=
  if (kvs.any fun kv => decide (kv.1 = k)) = true then kvs.map (fun kv => if kv.1 = k then (kv.1, v) else kv) else kvs ++ [(k, v)]
theorem getB_pos {p : κ × β} {r : List (κ × β)} {k : κ} (e : p.1 = k) : getB (p :: r) k = some p.2 := by simp [getB, List.find?_cons, e]
theorem getB_neg {p : κ × β} {r : List (κ × β)} {k : κ} (e : ¬ p.1 = k) : getB (p :: r) k = getB r k := by simp [getB, List.find?_cons, e]
theorem getB_any (k : κ) : ∀ kvs : List (κ × β), (kvs.any fun kv => decide (kv.1 = k)) = (getB kvs k).isSome
  | [] => rfl
  | p :: r => by
    rw [List.any_cons]
    by_cases e : p.1 = k
    · simp only [getB_pos e, decide_eq_true e, Bool.true_or, Option.isSome_some]
    · rw [getB_neg e, decide_eq_false e, Bool.false_or]; exact getB_any k r
end
/-! ### what the tables bear -/
section
variable {K : PySem.W.Frag} {ρ : Rho} {H : Hp}
theorem RepK.length {ds : List (L2.Key × D)} {vs : List (L2.Key × V)} (r : RepK K ρ H ds vs) : ds.length = vs.length := by
  induction r with
  | nil => rfl
  | cons _ _ ih => simp [ih]
theorem RepT.length {ds : List (List Int × D)} {xs : List (List Int × Addr × Value)} (r : RepT K ρ H ds xs) : ds.length = xs.length := by
  induction r with
  | nil => rfl
  | cons _ _ _ _ ih => simp [ih]
theorem RepK.any {ds : List (L2.Key × D)} {vs : List (L2.Key × V)} (r : RepK K ρ H ds vs) (k : L2.Key) : (ds.any fun kv => decide (kv.1 = k)) = vs.any fun kv => decide (kv.1 = k) := by
  induction r with
  | nil => rfl
  | cons _ _ ih => rw [List.any_cons, List.any_cons, ih]
theorem RepK.get {ds : List (L2.Key × D)} {vs : List (L2.Key × V)} (r : RepK K ρ H ds vs) {k : L2.Key} {d : D} (h : getB ds k = some d) : ∃ v, valV vs k = some v ∧ RepV K ρ H d v := by
  induction r with
  | nil => cases h
  | @cons j e v es us h1 t ih =>
    by_cases c : j = k
    · rw [getB_pos (p := (j, e)) c] at h
      cases h
      exact ⟨v, valV_pos (p := (j, v)) c, h1⟩
    · rw [getB_neg (p := (j, e)) c] at h
      obtain ⟨w, h2, h3⟩ := ih h
      exact ⟨w, by rw [valV_neg (p := (j, v)) c]; exact h2, h3⟩
theorem RepK.isSome {ds : List (L2.Key × D)} {vs : List (L2.Key × V)} (r : RepK K ρ H ds vs) (k : L2.Key) : (getB ds k).isSome = (valV vs k).isSome := by
  rw [← getB_any, ← valV_any, r.any]
theorem RepK.put {ds : List (L2.Key × D)} {vs : List (L2.Key × V)} (r : RepK K ρ H ds vs) (k : L2.Key) {d : D} {v : V} (hv : RepV K ρ H d v) : RepK K ρ H (putB ds k d) (putK vs k v) := by
  unfold putB putK
  rw [r.any k]
  by_cases e : (vs.any fun kv => decide (kv.1 = k)) = true
  · rw [if_pos e, if_pos e]
    clear e
    induction r with
    | nil => exact .nil
    | @cons j e u es us h1 t ih =>
      rw [List.map_cons, List.map_cons]
      by_cases c : j = k
      · rw [if_pos c, if_pos c]; exact .cons hv ih
      · rw [if_neg c, if_neg c]; exact .cons h1 ih
  · rw [if_neg e, if_neg e]
    clear e
    induction r with
    | nil => exact .cons hv .nil
    | cons h1 t ih => exact .cons h1 ih
theorem RepT.get {ds : List (List Int × D)} {xs : List (List Int × Addr × Value)} (r : RepT K ρ H ds xs) {k : List Int} {d : D} (h : getB ds k = some d) : ∃ p v, atKey xs k = some p ∧ RelV v p.2 ∧ RepV K ρ H d v := by
  induction r with
  | nil => cases h
  | @cons j a e v u es us h0 h1 h2 t ih =>
    by_cases c : j = k
    · rw [getB_pos (p := (j, e)) c] at h
      cases h
      exact ⟨(a, u), v, by simp [atKey, List.find?_cons, c], h2, h1⟩
    · rw [getB_neg (p := (j, e)) c] at h
      obtain ⟨p, w, q1, q2, q3⟩ := ih h
      exact ⟨p, w, by rw [← q1]; simp [atKey, List.find?_cons, c], q2, q3⟩
theorem RepT.isSome {ds : List (List Int × D)} {xs : List (List Int × Addr × Value)} (r : RepT K ρ H ds xs) (k : List Int) : (getB ds k).isSome = (atKey xs k).isSome := by
  induction r with
  | nil => rfl
  | @cons j a e v u es us h0 h1 h2 t ih =>
    by_cases c : j = k
    · rw [getB_pos (p := (j, e)) c]; simp [atKey, List.find?_cons, c]
    · rw [getB_neg (p := (j, e)) c, ih]; simp [atKey, List.find?_cons, c]
theorem RepT.put {ds : List (List Int × D)} {xs : List (List Int × Addr × Value)} (r : RepT K ρ H ds xs) (k : List Int) {d : D} {v : V} {b : Addr} {u : Value} (hb : SqT K H b (k.map V.int)) (hv : RepV K ρ H d v) (hu : RelV v u) : RepT K ρ H (putB ds k d) (storedH xs k b u) := by
  unfold putB storedH
  rw [getB_any, r.isSome k]
  by_cases e : (atKey xs k).isSome = true
  · rw [if_pos e, if_pos e]
    clear e
    induction r with
    | nil => exact .nil
    | @cons j a e w u' es us h0 h1 h2 t ih =>
      rw [List.map_cons, List.map_cons]
      unfold putAt
      by_cases c : j = k
      · rw [if_pos c, if_pos c]; exact .cons h0 hv hu ih
      · rw [if_neg c, if_neg c]; exact .cons h0 h1 h2 ih
  · rw [if_neg e, if_neg e]
    clear e
    induction r with
    | nil => exact .cons hb hv hu .nil
    | cons h0 h1 h2 t ih => exact .cons h0 h1 h2 ih
theorem RepT.keys {ds : List (List Int × D)} {xs : List (List Int × Addr × Value)} (r : RepT K ρ H ds xs) : ∀ x ∈ xs, SqT K H x.2.1 (x.1.map V.int) := by
  induction r with
  | nil => intro x h; cases h
  | cons h0 h1 h2 t ih =>
    intro x h
    rcases List.mem_cons.mp h with rfl | h
    · exact h0
    · exact ih x h
end
/-! ### keys of ints, as the library's -/
theorem inl_inj {a b : List Int} (h : a.map (Sum.inl : Int → L2.Key) = b.map .inl) : a = b := by
  induction a generalizing b with
  | nil => cases b with
    | nil => rfl
    | cons _ _ => cases h
  | cons x a ih => cases b with
    | nil => cases h
    | cons y b =>
      rw [List.map_cons, List.map_cons] at h
      injection h with h1 h2
      injection h1 with h1
      rw [h1, ih h2]
section
variable {X : Cx} {pins : List (Addr × Obj)} {σ : L2.St} {H : Hp} {s : Shared} {a b : Addr} {A : Around} {E : Value → Shared → Prop}
theorem tkey {k : List Int} (I : Inv X pins σ H s) (h : SqT X.K H b (k.map V.int)) : (tupleKind (mixKind X.prog X.w)).is s.heap (k.map .inl) b := by
  obtain ⟨its, r, ⟨o, h1, h2, n, h3⟩, _⟩ := I.tuple h
  refine ⟨o, its.toArray, n, h1, h2, h3, ?_⟩
  have r' : Vals ((k.map (Sum.inl : Int → L2.Key)).map kV) its := by
    rw [List.map_map]
    exact r
  simpa using items_are r'
theorem dit_at {ob : Obj} {xs : List (List Int × Addr × Value)} (I : Inv X pins σ H s) (e : H a = some (.ext (isO a ob))) (t : TabT a ob xs) (hs : ∀ x ∈ xs, SqT X.K H x.2.1 (x.1.map V.int)) : s.heap.DictOfH (tupleKind (mixKind X.prog X.w)) a (xs.map lft) := by
  obtain ⟨h0, _, _⟩ := (show ObjOk X.prog X.w H s.heap a (.ext (isO a ob)) from I.hok a _ e)
  obtain ⟨_, _, hx, hn, es, h1, h2⟩ := t
  refine ⟨ob, es, _, h0, hx, h1, h2 _ _, fun x hx => ?_, ?_⟩
  · obtain ⟨y, hy, rfl⟩ := List.mem_map.mp hx
    exact tkey I (hs y hy)
  · rw [List.map_map]
    have : (xs.map fun x => (lft x).1) = (xs.map (·.1)).map fun k => k.map (Sum.inl : Int → L2.Key) := by rw [List.map_map]; rfl
    show (xs.map fun x => (lft x).1).Nodup
    rw [this]
    exact List.Pairwise.map _ (fun x y h e => h (inl_inj e)) hn
end
/-! ### the meanings -/
/-- the same, below -/
def DAt (X : Cx) (H : Hp) (a : Addr) (y : V) (o : Option V) : Prop :=
  (∃ kvs k, H a = some (.dK kvs) ∧ y = kV k ∧ o = valV kvs k) ∨
    ∃ ob xs k b, H a = some (.ext (isO a ob)) ∧ TabT a ob xs ∧ (∀ x ∈ xs, SqT X.K H x.2.1 (x.1.map V.int)) ∧ y = .ref b ∧ SqT X.K H b (k.map V.int) ∧ RelO o ((atKey xs k).map (·.2))
section
variable {X : Cx} {xp : Option XP}
theorem DAt.type {pins : List (Addr × Obj)} {σ : L2.St} {H : Hp} {s : Shared} {a : Addr} {y : V} {o : Option V} (I : Inv X pins σ H s) (g : DAt X H a y o) : s.TypeIs (.ref a) "dict" := by
  rcases g with ⟨kvs, k, e, _, _⟩ | ⟨ob, xs, k, b, e, t, hs, _⟩
  · obtain ⟨_, _, vs, _, dd⟩ := dk_of I.hok e
    exact dd.typeIs
  · exact (dit_at I e t hs).typeIs
end
end Z
/-! Z20: dicts made and written; index, pop; list(range()). -/
namespace Z
open PySem PySem.Spec PyProof.Rows L2
section
variable {K : PySem.W.Frag} {ρ : Rho} {H : Hp} {ih : IH}
end
/-! ### {} -/
section
variable {X : Cx} {xp : Option XP} {pos : Pos}
/-! ### d[k] = v -/
/-! ### methods of lists -/
end
/-! ### list(range()) -/
section
variable {X : Cx} {xp : Option XP} {pos : Pos} {a b : Expr} {ma mb : ME}
end
end Z
/-! Z22: the head's run in three pieces (each by itself takes less memory). -/
namespace Z
open PySem PySem.W PySem.Calls PyProof.Rows HandSHeadRun
end Z
/-! Z23: pop() of a list; min and max. -/
namespace Z
open PySem PySem.Spec PyProof.Rows L2
section
variable {xp : Option XP} {X : Cx} {o : Expr} {mo : ME} {name : Str} {apos cpos : Pos} {id : String} {m : MMt}
/-! ### min, max -/
end
end Z
/-! Z24: a list taken apart. -/
namespace Z
open PySem PySem.Spec PyProof.Rows L2
section
variable {xp : Option XP} {X : Cx} {ma : ME} {e : Expr} {pos : Pos}
/-- a, b, .. = a list -/
def asgLM (n : Nat) (gs : MGs) (ma : ME) : MS := fun env h => (ma env h).thenS env fun d h => match lisOf h d with
  | some ds => if ds.length = n then (match gs ds env with
    | some env => .nx env h
    | none => .stuck) else .stuck
  | none => .stuck
end
end Z
/-! Z26: try with several clauses, each with a name or without. -/
namespace Z
open PySem PySem.Spec PyProof.Rows L2
/-- an exception that a try of X has in hand: it lies at a, no slot or object of H knows it -/
structure Held1 (X : Cx) (pins : List (Addr × Obj)) (σ : L2.St) (H : Hp) (cls : Value) (d : Option Addr) (a : Addr) (B : Heap) (s0 s : Shared) : Prop where
  inv : Inv X pins σ H s0
  old : ∀ b o, s0.heap.get? b = some o → b ∉ frs X.stack → B.get? b = some o
  up : s0.heap.UpToSlots s.heap
  fly : HandSPX.FlyingZ B (X.env :: X.outer) a (Zc cls d) s.heap
  new : H a = none
  out : s.os = s0.os
  gen : AllBare s.gens
section
variable {X : Cx} {pins : List (Addr × Obj)} {σ : L2.St} {H : Hp} {cls : Value} {d : Option Addr} {a : Addr} {B : Heap} {s0 s : Shared}
theorem Held1.here (w : Held1 X pins σ H cls d a B s0 s) : Inv X pins σ H s := w.inv.landed w.old w.fly.1 w.up w.out w.gen
theorem Held1.lies (w : Held1 X pins σ H cls d a B s0 s) : ∃ oe vs, s.heap.get? a = some oe ∧ Zc cls d oe ∧ oe.data = .fields vs := w.fly.there
theorem Held1.apart (w : Held1 X pins σ H cls d a B s0 s) : a ∉ frs (X.env :: X.outer) := fun hm => by
  obtain ⟨oe, vs, he, _, hd⟩ := w.lies
  obtain ⟨_, o2, e2, nf⟩ := w.fly.2.2.1.mem hm
  rw [he] at e2
  cases e2
  exact nf vs hd
theorem Held1.inner (hf : X.env.frame = some X.env.locals) (w : Held1 X pins σ H cls d a B s0 s) {oe : Obj} {vs : Array Value} (he : s.heap.get? a = some oe) (hd : oe.data = .fields vs) : Inv (X.suite a ((a, oe) :: (X.pn ++ pins))) [] σ H s := by
  have ap := w.apart
  refine w.here.suite he hd w.new (fun z => ap ?_) fun hm => ap ?_
  · rw [z]
    exact List.mem_filterMap.mpr ⟨X.env, List.mem_cons_self, hf⟩
  · obtain ⟨e1, h1, h2⟩ := List.mem_filterMap.mp hm
    exact List.mem_filterMap.mpr ⟨e1, List.mem_cons_of_mem _ h1, h2⟩
/-- the flight is cleared once more -/
theorem Held1.clear {Q : Unit → Shared → Prop} {E : Value → Shared → Prop} {A : Around} {M : Model} (w : Held1 X pins σ H cls d a B s0 s) (k : ∀ s', Held1 X pins σ H cls d a B s0 s' → Q () s') : wpAny M A (setFlight (.ref a) none) Q E s :=
  HandSPX.lands_againZ w.fly fun hp f u => k _ ⟨w.inv, w.old, w.up.trans u, f, w.new, w.out, w.gen⟩
end
section
variable {X : Cx} {x n : Str} {c : Value} {i : Nat} {suite body : List Stmt} {b₀ : Stmt} {np pos pos' : Pos} {ts : Addr → Value → Option Addr → TS} {tb : WX → TS} {Wout : WX} {hds : List ExceptHandler} {h₀ : ExceptHandler} {w : Ends → WX}
/-- the test of a clause -/
theorem asks (hf : X.env.frame = some X.env.locals) (hc : Names X x c) {pins : List (Addr × Obj)} {σ : L2.St} {H : Hp} {cls : Value} {d : Option Addr} {a : Addr} {B : Heap} {s0 s : Shared} (hh : Held1 X pins σ H cls d a B s0 s) {b : Bool} (hb : PySem.W.exmOne X.K cls c = some b) {R : Bool → Shared → Prop} {E E' : Value → Shared → Prop} (k : R b s) :
    wpAny (model X.prog X.w) (X.A.mark (some (.ref a))) (eval (.Name x np) X.env) (fun u t => wpAny (model X.prog X.w) (X.A.mark (some (.ref a))) (excMatches (.ref a) u) R E t) E' s := by
  obtain ⟨oe, vs, he, hz, hd⟩ := hh.lies
  have I2 := hh.inner hf he hd
  have look : PySem.W.Looks (model X.prog X.w) s.heap (typeOf (.ref a)) cls := fun A Q F t keep q => wpAny_typeOf_ref (keep _ _ he) (by rw [hz.1]; exact q)
  have ans := (PySem.W.exm_one (M := model X.prog X.w) hh.here.kIn look hb).here (A := X.A.mark (some (.ref a))) (E := E) k
  obtain ⟨gl, db, q | ⟨q, bt, nn⟩⟩ := hc
  · exact ld_glob (X := X.suite a ((a, oe) :: (X.pn ++ pins))) I2 gl q ans db
  · exact ld_blt (X := X.suite a ((a, oe) :: (X.pn ++ pins))) I2 gl q bt ans nn db
end
/-! ### the mirror -/
section
variable {X : Cx} {x n : Str} {c : Value} {i : Nat} {suite body : List Stmt} {b₀ : Stmt} {np pos pos' : Pos} {hds : List ExceptHandler} {h₀ : ExceptHandler} {mb : MS} {mh : Exc → MS} {sub : Str → Str → Option Bool} {hs l : List (Option Nat × Str × (Exc → MS))}
end
end Z
/-! Z27: dict comprehensions, keys ints, texts, or tuples of ints. -/
namespace Z
open PySem PySem.Spec PyProof.Rows L2
section
variable {X : Cx}
end
/-! ### a comprehension within a comprehension -/
/-! ### the mirror -/
section
variable {X : Cx} {xp : Option XP} {scope : Scope} {vs : List Nat} {pos : Pos}
end
end Z
/-! Z28: len, list, sorted of a dict whose keys are tuples of ints; d.get(k, e). -/
namespace Z
open PySem PySem.Spec PyProof.Rows L2
section
variable {X : Cx} {pins : List (Addr × Obj)} {σ : L2.St} {H : Hp} {s : Shared} {a : Addr}
/-! ### len -/
/-! ### list -/
/-! ### sorted -/
/-! ### d.get(k, e) -/
def DHere (H : Hp) (a : Addr) : Prop := (∃ kvs, H a = some (.dK kvs)) ∨ ∃ ob xs, H a = some (.ext (isO a ob)) ∧ TabT a ob xs
theorem DHere.at (I : Inv X pins σ H s) (d : DHere H a) : s.TypeIs (.ref a) "dict" ∧ ∀ b, Value.ref a = .ref b → ∃ ob, s.heap.get? b = some ob ∧ ob.dict = none := by
  rcases d with ⟨kvs, e⟩ | ⟨ob, xs, e, t⟩
  · obtain ⟨_, _, vs, _, dd⟩ := dk_of I.hok e
    exact ⟨dd.typeIs, dd.mapOf.noDict⟩
  · exact ⟨⟨ob, ext_here I e, t.2.2.1.1⟩, fun b q => by cases q; exact ⟨ob, ext_here I e, t.2.2.1.2.1⟩⟩
variable {xp : Option XP}
end
end Z
/-! Z29: dict displays; list.remove. -/
namespace Z
open PySem PySem.Spec PyProof.Rows L2
section
variable {X : Cx} {xp : Option XP} {pos : Pos}
/-! ### {k: v, ..} -/
def tKV : List (TE × TE) → L2.St → Hp → (List (V × V) → Hp → Prop) → Prop
  | [], _, H, Q => Q [] H
  | p :: r, σ, H, Q => p.1 σ H fun y H => p.2 σ H fun z H => tKV r σ H fun ps H => Q ((y, z) :: ps) H
inductive RelKV : List (V × V) → List (Value × Value) → Prop
  | nil : RelKV [] []
  | cons {y z : V} {u r : Value} {ps : List (V × V)} {vs : List (Value × Value)} : RelV y u → RelV z r → RelKV ps vs → RelKV ((y, z) :: ps) ((u, r) :: vs)
inductive PKV (X : Cx) (pos : Pos) : List (Option Expr) → List Expr → List (TE × TE) → List (Sem Value × Sem Value) → Prop
  | nil : PKV X pos [] [] [] []
  | cons {k v : Expr} {tk tv : TE} {ks : List (Option Expr)} {vs : List Expr} {ts : List (TE × TE)} {ps : List (Sem Value × Sem Value)} : PE X k tk → PE X v tv → PKV X pos ks vs ts ps → PKV X pos (some k :: ks) (v :: vs) ((tk, tv) :: ts) ((eval k X.env, do let x ← eval v X.env; standAt pos; pure x) :: ps)
theorem PKV.len {ks : List (Option Expr)} {vs : List Expr} {ts : List (TE × TE)} {ps : List (Sem Value × Sem Value)} (h : PKV X pos ks vs ts ps) : ps.length = ks.length := by
  induction h with
  | nil => rfl
  | cons _ _ _ ih => rw [List.length_cons, List.length_cons, ih]
theorem PKV.run {ks : List (Option Expr)} {vs : List Expr} {ts : List (TE × TE)} {ps : List (Sem Value × Sem Value)} (h : PKV X pos ks vs ts ps) : ∀ {pins : List (Addr × Obj)} {s : Shared} {σ : L2.St} {H : Hp} {Q : List (V × V) → Hp → Prop}, Inv X pins σ H s → tKV ts σ H Q →
    wpAny (model X.prog X.w) X.A (evalPairs ps) (fun us s' => ∃ qs H', Inv X pins σ H' s' ∧ RelKV qs us ∧ Q qs H') X.xe s := by
  induction h with
  | nil => exact fun I q => evalPairs_nil ⟨[], _, I, .nil, q⟩
  | cons pk pv _ ih =>
    intro pins s σ H Q I q
    refine evalPairs_cons (thn (pk.run pins s σ H _ I q) fun u s1 ⟨y, H1, I1, r1, q1⟩ => wpAny_bind (thn (pv.run pins s1 σ H1 _ I1 q1) fun u2 s2 ⟨z, H2, I2, r2, q2⟩ => wpAny_bind (wpAny_standAt (wpAny_pure ?_))))
    exact thn (ih I2 q2) fun us s3 ⟨qs, H3, I3, r3, q3⟩ => ⟨(y, z) :: qs, H3, I3, .cons r1 r2 r3, q3⟩
inductive RepKV (K : PySem.W.Frag) (ρ : Rho) (H : Hp) : List (D × D) → List (V × V) → Prop
  | nil : RepKV K ρ H [] []
  | cons {d e : D} {y z : V} {ds : List (D × D)} {vs : List (V × V)} : RepV K ρ H d y → RepV K ρ H e z → RepKV K ρ H ds vs → RepKV K ρ H ((d, e) :: ds) ((y, z) :: vs)
theorem RepKV.ext {K : PySem.W.Frag} {ρ ρ' : Rho} {H H' : Hp} (x : Ext ρ H ρ' H') : ∀ {ds : List (D × D)} {vs : List (V × V)}, RepKV K ρ H ds vs → RepKV K ρ' H' ds vs
  | _, _, .nil => .nil
  | _, _, .cons r1 r2 t => .cons (r1.ext x) (r2.ext x) (t.ext x)
inductive SKV (xp : Option XP) (X : Cx) : List (Option Expr) → List Expr → List (ME × ME) → Prop
  | nil : SKV xp X [] [] []
  | cons {k v : Expr} {mk mv : ME} {ks : List (Option Expr)} {vs : List Expr} {ms : List (ME × ME)} : SE xp X k mk → SE xp X v mv → SKV xp X ks vs ms → SKV xp X (some k :: ks) (v :: vs) ((mk, mv) :: ms)
/-! ### l.remove(x) -/
end
end Z
/-! common mirrors -/
namespace Zc
open PySem PySem.Spec PyProof.Rows L2 Z
noncomputable def M_is_integer : MS := (retM (andM (isiM "int" (varM 0)) (notM (isiM "bool" (varM 0)))))
noncomputable def F_is_integer : MF := defM 1 M_is_integer
noncomputable def M_is_rational : MS := (seqM (ifM (torM (tnotM (testM (isiM "tuple" (varM 0)))) (btestM (binM neM (callM lenF (aconsM (varM 0) anilM)) (constM (.int 2))))) (retM (constM (.bl false))) nextM)
  (seqM (asgM (gtupM 2 (gconsM (gnameM 1) (gconsM (gnameM 2) gnilM))) (varM 0))
  (retM (andM (callM F_is_integer (aconsM (varM 1) anilM)) (andM (callM F_is_integer (aconsM (varM 2) anilM)) (andM (binM gtM (varM 2) (constM (.int 0))) (binM eqM (callM gcdF (aconsM (varM 1) (aconsM (varM 2) anilM))) (constM (.int 1)))))))))
noncomputable def F_is_rational : MF := defM 3 M_is_rational
noncomputable def M_reduced : MS := (seqM (setM 2 (callM gcdF (aconsM (varM 0) (aconsM (varM 1) anilM))))
  (retM (tupM (aconsM (binM fdivM (varM 0) (varM 2)) (aconsM (binM fdivM (varM 1) (varM 2)) anilM)))))
noncomputable def F_reduced : MF := defM 3 M_reduced
noncomputable def M_ratio : MS := (seqM (ifM (btestM (binM eqM (varM 1) (constM (.int 0)))) (raiseM "BadValue" ["name"] (aconsM (constM (.str "d")) anilM)) nextM)
  (retM (iteM (btestM (binM gtM (varM 1) (constM (.int 0)))) (callM F_reduced (aconsM (varM 0) (aconsM (varM 1) anilM))) (callM F_reduced (aconsM (negM (varM 0)) (aconsM (negM (varM 1)) anilM))))))
noncomputable def F_ratio : MF := defM 2 M_ratio
noncomputable def M__law_stream : MS := (retM (lstM (aconsM (callM listF (aconsM (varM 0) anilM)) (aconsM (constM (.int 0)) (aconsM (constM (.int 0)) anilM)))))
noncomputable def F__law_stream : MF := defM 1 M__law_stream
noncomputable def M__law_next : MS := (seqM (ifM (btestM (binM eqM (binM ixM (varM 0) (constM (.int 1))) (constM (.int 0)))) (seqM (setM 3 (binM ixM (varM 0) (constM (.int 2))))
  (seqM (setM 4 (binM addM (constM (.int 7)) (varM 3)))
  (seqM (ifM (btestM (binM ltM (varM 3) (callM lenF (aconsM (binM ixM (varM 0) (constM (.int 0))) anilM)))) (setM 4 (callM absF (aconsM (binM ixM (binM ixM (varM 0) (constM (.int 0))) (varM 3)) anilM))) nextM)
  (seqM (ifM (btestM (binM ltM (varM 4) (binM powM (constM (.int 10)) (constM (.int 18))))) (seqM (setM 4 (binM modM (callM intF (aconsM (binM addM (binM addM (binM mulM (varM 4) (constM (.int 48271))) (binM mulM (varM 3) (constM (.int 69621)))) (constM (.int 11))) anilM)) (constM (.int 2147483647))))
  (setM 4 (binM addM (binM mulM (binM modM (callM intF (aconsM (binM addM (binM mulM (varM 4) (constM (.int 16807))) (constM (.int 13))) anilM)) (constM (.int 2147483647))) (constM (.int 65537))) (varM 4)))) nextM)
  (seqM (putM setL (varM 0) (constM (.int 1)) (varM 4))
  (putM setL (varM 0) (constM (.int 2)) (binM addM (varM 3) (constM (.int 1))))))))) nextM)
  (seqM (setM 2 (binM modM (callM intF (aconsM (binM ixM (varM 0) (constM (.int 1))) anilM)) (varM 1)))
  (seqM (putM setL (varM 0) (constM (.int 1)) (binM fdivM (binM ixM (varM 0) (constM (.int 1))) (varM 1)))
  (retM (varM 2)))))
noncomputable def F__law_next : MF := defM 5 M__law_next
noncomputable def M__law_is_integer : MS := (retM (andM (isiM "int" (varM 0)) (notM (isiM "bool" (varM 0)))))
noncomputable def F__law_is_integer : MF := defM 1 M__law_is_integer
noncomputable def M__law_gcd : MS := (seqM (setM 0 (callM absF (aconsM (varM 0) anilM)))
  (seqM (setM 1 (callM absF (aconsM (varM 1) anilM)))
  (seqM (forM (rngI1 (aconsM (constM (.int 40000)) anilM)) (gnameM 2) (seqM (ifM (btestM (binM eqM (varM 1) (constM (.int 0)))) brkM nextM)
  (parM 0 1 (aconsM (varM 1) (aconsM (binM modM (callM intF (aconsM (varM 0) anilM)) (varM 1)) anilM)))))
  (retM (varM 0)))))
noncomputable def F__law_gcd : MF := defM 3 M__law_gcd
noncomputable def M__law_low : MS := (seqM (setM 2 (callM F__law_gcd (aconsM (varM 0) (aconsM (varM 1) anilM))))
  (seqM (ifM (btestM (binM ltM (varM 1) (constM (.int 0)))) (setM 2 (binM subM (constM (.int 0)) (varM 2))) nextM)
  (retM (tupM (aconsM (binM fdivM (varM 0) (varM 2)) (aconsM (binM fdivM (varM 1) (varM 2)) anilM))))))
noncomputable def F__law_low : MF := defM 3 M__law_low
noncomputable def M__law_ratio : MS := (seqM (setM 3 (binM subM (callM F__law_next (aconsM (varM 0) (aconsM (binM addM (binM mulM (constM (.int 2)) (varM 1)) (constM (.int 1))) anilM))) (varM 1)))
  (retM (callM F__law_low (aconsM (varM 3) (aconsM (binM addM (constM (.int 1)) (callM F__law_next (aconsM (varM 0) (aconsM (varM 2) anilM)))) anilM)))))
noncomputable def F__law_ratio : MF := defM 4 M__law_ratio
end Zc
/-! common mirrors -/
namespace Zc
open PySem PySem.Spec PyProof.Rows L2 Z
noncomputable def M_plus : MS := (retM (callM F_reduced (aconsM (binM addM (binM mulM (binM ixM (varM 0) (constM (.int 0))) (binM ixM (varM 1) (constM (.int 1)))) (binM mulM (binM ixM (varM 0) (constM (.int 1))) (binM ixM (varM 1) (constM (.int 0))))) (aconsM (binM mulM (binM ixM (varM 0) (constM (.int 1))) (binM ixM (varM 1) (constM (.int 1)))) anilM))))
noncomputable def F_plus : MF := defM 2 M_plus
noncomputable def M_minus : MS := (retM (callM F_reduced (aconsM (binM subM (binM mulM (binM ixM (varM 0) (constM (.int 0))) (binM ixM (varM 1) (constM (.int 1)))) (binM mulM (binM ixM (varM 0) (constM (.int 1))) (binM ixM (varM 1) (constM (.int 0))))) (aconsM (binM mulM (binM ixM (varM 0) (constM (.int 1))) (binM ixM (varM 1) (constM (.int 1)))) anilM))))
noncomputable def F_minus : MF := defM 2 M_minus
noncomputable def M_times : MS := (retM (callM F_reduced (aconsM (binM mulM (binM ixM (varM 0) (constM (.int 0))) (binM ixM (varM 1) (constM (.int 0)))) (aconsM (binM mulM (binM ixM (varM 0) (constM (.int 1))) (binM ixM (varM 1) (constM (.int 1)))) anilM))))
noncomputable def F_times : MF := defM 2 M_times
noncomputable def M__law_equal (F__law_equal : MF) : MS := (seqM (ifM (btestM (binM (isM false) (varM 1) (constM .non))) (retM (binM (isM false) (varM 0) (constM .non))) nextM)
  (seqM (ifM (testM (isiM "bool" (varM 1))) (retM (andM (isiM "bool" (varM 0)) (binM eqM (varM 0) (varM 1)))) nextM)
  (seqM (ifM (testM (isiM "int" (varM 1))) (retM (andM (callM F__law_is_integer (aconsM (varM 0) anilM)) (binM eqM (varM 0) (varM 1)))) nextM)
  (seqM (ifM (testM (isiM "str" (varM 1))) (retM (andM (isiM "str" (varM 0)) (binM eqM (varM 0) (varM 1)))) nextM)
  (seqM (ifM (tandM (testM (isiM "tuple" (varM 1))) (tnotM (testM (isiM "tuple" (varM 0))))) (retM (constM (.bl false))) nextM)
  (seqM (ifM (tandM (testM (isiM "list" (varM 1))) (tnotM (testM (isiM "list" (varM 0))))) (retM (constM (.bl false))) nextM)
  (seqM (ifM (btestM (binM neM (callM lenF (aconsM (varM 0) anilM)) (callM lenF (aconsM (varM 1) anilM)))) (retM (constM (.bl false))) nextM)
  (retM (callM allF (aconsM (lcM (rngI1 (aconsM (callM lenF (aconsM (varM 1) anilM)) anilM)) [2] (gnameM 2) yesM (callM F__law_equal (aconsM (binM ixM (varM 0) (varM 2)) (aconsM (binM ixM (varM 1) (varM 2)) anilM)))) anilM))))))))))
noncomputable def F__law_equal_r : Nat → MF
  | 0 => fun _ _ => .stuck
  | n + 1 => defM 3 (M__law_equal (F__law_equal_r n))
noncomputable def F__law_equal : MF := F__law_equal_r 10
noncomputable def M_is_square : MS := (retM (binM eqM (binM mulM (callM isqrtF (aconsM (varM 0) anilM)) (callM isqrtF (aconsM (varM 0) anilM))) (varM 0)))
noncomputable def F_is_square : MF := defM 1 M_is_square
noncomputable def M__law_root : MS := (seqM (setM 1 (constM (.int 0)))
  (seqM (setM 2 (constM (.int 1)))
  (seqM (forM (rngI1 (aconsM (constM (.int 4000)) anilM)) (gnameM 3) (seqM (ifM (btestM (binM gtM (binM mulM (varM 2) (varM 2)) (varM 0))) brkM nextM)
  (setM 2 (binM mulM (varM 2) (constM (.int 2))))))
  (seqM (forM (rngI1 (aconsM (constM (.int 4000)) anilM)) (gnameM 3) (seqM (ifM (btestM (binM ltM (binM subM (varM 2) (varM 1)) (constM (.int 2)))) brkM nextM)
  (seqM (setM 4 (binM fdivM (binM addM (varM 1) (varM 2)) (constM (.int 2))))
  (ifM (btestM (binM gtM (binM mulM (varM 4) (varM 4)) (varM 0))) (setM 2 (varM 4)) (setM 1 (varM 4))))))
  (retM (varM 1))))))
noncomputable def F__law_root : MF := defM 5 M__law_root
noncomputable def M__law_is_square : MS := (retM (binM eqM (binM mulM (callM F__law_root (aconsM (varM 0) anilM)) (callM F__law_root (aconsM (varM 0) anilM))) (varM 0)))
noncomputable def F__law_is_square : MF := defM 1 M__law_is_square
noncomputable def M_sign : MS := (retM (binM subM (callM intF (aconsM (binM gtM (varM 0) (constM (.int 0))) anilM)) (callM intF (aconsM (binM ltM (varM 0) (constM (.int 0))) anilM))))
noncomputable def F_sign : MF := defM 1 M_sign
noncomputable def M_is_root : MS := (seqM (ifM (torM (btestM (binM neM (callM lenF (aconsM (varM 0) anilM)) (constM (.int 3)))) (torM (tnotM (testM (isiM "tuple" (binM ixM (varM 0) (constM (.int 1)))))) (torM (btestM (binM neM (callM lenF (aconsM (binM ixM (varM 0) (constM (.int 1))) anilM)) (constM (.int 3)))) (tnotM (testM (callM allF (aconsM (lcM (seqI (binM ixM (varM 0) (constM (.int 1)))) [5] (gnameM 5) yesM (callM F_is_integer (aconsM (varM 5) anilM))) anilM))))))) (retM (constM (.bl false))) nextM)
  (seqM (ifM (torM (tnotM (testM (callM F_is_integer (aconsM (binM ixM (varM 0) (constM (.int 2))) anilM)))) (btestM (binM (inM true) (binM ixM (varM 0) (constM (.int 2))) (tupM (aconsM (constM (.int 0)) (aconsM (constM (.int 1)) anilM)))))) (retM (constM (.bl false))) nextM)
  (seqM (asgM (gtupM 3 (gconsM (gnameM 2) (gconsM (gnameM 3) (gconsM (gnameM 4) gnilM)))) (binM ixM (varM 0) (constM (.int 1))))
  (seqM (setM 1 (binM subM (binM mulM (varM 3) (varM 3)) (binM mulM (binM mulM (constM (.int 4)) (varM 4)) (varM 2))))
  (retM (andM (binM gtM (varM 4) (constM (.int 0))) (andM (binM eqM (callM gcdF (aconsM (callM gcdF (aconsM (varM 4) (aconsM (varM 3) anilM))) (aconsM (varM 2) anilM))) (constM (.int 1))) (andM (binM gtM (varM 1) (constM (.int 0))) (notM (callM F_is_square (aconsM (varM 1) anilM)))))))))))
noncomputable def F_is_root : MF := defM 6 M_is_root
noncomputable def M_is_number : MS := (seqM (ifM (torM (tnotM (testM (isiM "tuple" (varM 0)))) (torM (btestM (binM ltM (callM lenF (aconsM (varM 0) anilM)) (constM (.int 2)))) (tnotM (testM (isiM "str" (binM ixM (varM 0) (constM (.int 0)))))))) (retM (constM (.bl false))) nextM)
  (seqM (ifM (btestM (binM eqM (binM ixM (varM 0) (constM (.int 0))) (constM (.str "rational")))) (retM (andM (binM eqM (callM lenF (aconsM (varM 0) anilM)) (constM (.int 2))) (callM F_is_rational (aconsM (binM ixM (varM 0) (constM (.int 1))) anilM)))) nextM)
  (retM (andM (binM eqM (binM ixM (varM 0) (constM (.int 0))) (constM (.str "root"))) (callM F_is_root (aconsM (varM 0) anilM))))))
noncomputable def F_is_number : MF := defM 1 M_is_number
noncomputable def M_check_number : MS := (ifM (tnotM (testM (callM F_is_number (aconsM (varM 0) anilM)))) (raiseM "BadValue" ["name"] (aconsM (varM 1) anilM)) nextM)
noncomputable def F_check_number : MF := defM 2 M_check_number
noncomputable def M_parts_of : MS := (seqM (ifM (btestM (binM eqM (binM ixM (varM 0) (constM (.int 0))) (constM (.str "rational")))) (retM (tupM (aconsM (constM (.int 0)) (aconsM (tupM (aconsM (binM ixM (varM 0) (constM (.int 1))) (aconsM (constM (.tup [(.int 0), (.int 1)])) anilM))) anilM)))) nextM)
  (seqM (asgM (gtupM 3 (gconsM (gnameM 1) (gconsM (gnameM 2) (gconsM (gnameM 3) gnilM)))) (binM ixM (varM 0) (constM (.int 1))))
  (retM (tupM (aconsM (binM subM (binM mulM (varM 2) (varM 2)) (binM mulM (binM mulM (constM (.int 4)) (varM 3)) (varM 1))) (aconsM (tupM (aconsM (callM F_ratio (aconsM (negM (varM 2)) (aconsM (binM mulM (constM (.int 2)) (varM 3)) anilM))) (aconsM (callM F_ratio (aconsM (binM subM (binM mulM (constM (.int 2)) (binM ixM (varM 0) (constM (.int 2)))) (constM (.int 1))) (aconsM (binM mulM (constM (.int 2)) (varM 3)) anilM))) anilM))) anilM))))))
noncomputable def F_parts_of : MF := defM 4 M_parts_of
noncomputable def M_square_sign : MS := (seqM (setM 3 (callM F_sign (aconsM (binM ixM (varM 0) (constM (.int 0))) anilM)))
  (seqM (setM 4 (callM F_sign (aconsM (binM mulM (binM ixM (varM 1) (constM (.int 0))) (varM 2)) anilM)))
  (seqM (ifM (torM (btestM (binM eqM (varM 4) (constM (.int 0)))) (btestM (binM eqM (varM 3) (varM 4)))) (retM (varM 3)) nextM)
  (seqM (ifM (btestM (binM eqM (varM 3) (constM (.int 0)))) (retM (varM 4)) nextM)
  (retM (binM mulM (varM 3) (callM F_sign (aconsM (binM ixM (callM F_minus (aconsM (callM F_times (aconsM (varM 0) (aconsM (varM 0) anilM))) (aconsM (callM F_times (aconsM (tupM (aconsM (varM 2) (aconsM (constM (.int 1)) anilM))) (aconsM (callM F_times (aconsM (varM 1) (aconsM (varM 1) anilM))) anilM))) anilM))) (constM (.int 0))) anilM))))))))
noncomputable def F_square_sign : MF := defM 5 M_square_sign
noncomputable def M__law_number : MS := (seqM (ifM (btestM (binM eqM (callM F__law_next (aconsM (varM 0) (aconsM (constM (.int 3)) anilM))) (constM (.int 0)))) (retM (tupM (aconsM (constM (.str "rational")) (aconsM (callM F__law_ratio (aconsM (varM 0) (aconsM (constM (.int 60)) (aconsM (constM (.int 40)) anilM)))) anilM)))) nextM)
  (seqM (setM 1 (binM addM (constM (.int 1)) (callM F__law_next (aconsM (varM 0) (aconsM (constM (.int 9)) anilM)))))
  (seqM (setM 2 (binM subM (callM F__law_next (aconsM (varM 0) (aconsM (constM (.int 41)) anilM))) (constM (.int 20))))
  (seqM (setM 3 (binM subM (callM F__law_next (aconsM (varM 0) (aconsM (constM (.int 41)) anilM))) (constM (.int 20))))
  (seqM (setM 4 (callM F__law_gcd (aconsM (callM F__law_gcd (aconsM (varM 1) (aconsM (varM 2) anilM))) (aconsM (varM 3) anilM))))
  (seqM (parM3 1 2 3 (aconsM (binM fdivM (varM 1) (varM 4)) (aconsM (binM fdivM (varM 2) (varM 4)) (aconsM (binM fdivM (varM 3) (varM 4)) anilM))))
  (seqM (setM 5 (binM subM (binM mulM (varM 2) (varM 2)) (binM mulM (binM mulM (constM (.int 4)) (varM 1)) (varM 3))))
  (seqM (ifM (torM (btestM (binM leM (varM 5) (constM (.int 0)))) (testM (callM F__law_is_square (aconsM (varM 5) anilM)))) (retM (tupM (aconsM (constM (.str "root")) (aconsM (tupM (aconsM (binM subM (constM (.int 0)) (constM (.int 2))) (aconsM (constM (.int 0)) (aconsM (constM (.int 1)) anilM)))) (aconsM (callM F__law_next (aconsM (varM 0) (aconsM (constM (.int 2)) anilM))) anilM))))) nextM)
  (retM (tupM (aconsM (constM (.str "root")) (aconsM (tupM (aconsM (varM 3) (aconsM (varM 2) (aconsM (varM 1) anilM)))) (aconsM (callM F__law_next (aconsM (varM 0) (aconsM (constM (.int 2)) anilM))) anilM)))))))))))))
noncomputable def F__law_number : MF := defM 6 M__law_number
noncomputable def M__law_beside : MS := (seqM (ifM (btestM (binM eqM (binM ixM (varM 0) (constM (.int 0))) (constM (.str "rational")))) (seqM (setM 5 (binM mulM (binM ixM (binM ixM (varM 0) (constM (.int 1))) (constM (.int 0))) (varM 2)))
  (seqM (setM 6 (binM mulM (varM 1) (binM ixM (binM ixM (varM 0) (constM (.int 1))) (constM (.int 1)))))
  (retM (binM subM (callM intF (aconsM (binM gtM (varM 5) (varM 6)) anilM)) (callM intF (aconsM (binM ltM (varM 5) (varM 6)) anilM)))))) nextM)
  (seqM (asgM (gtupM 3 (gconsM (gnameM 7) (gconsM (gnameM 8) (gconsM (gnameM 9) gnilM)))) (binM ixM (varM 0) (constM (.int 1))))
  (seqM (setM 3 (binM addM (binM addM (binM mulM (binM mulM (varM 7) (varM 2)) (varM 2)) (binM mulM (binM mulM (varM 8) (varM 1)) (varM 2))) (binM mulM (binM mulM (varM 9) (varM 1)) (varM 1))))
  (seqM (setM 4 (binM addM (binM mulM (binM mulM (constM (.int 2)) (varM 9)) (varM 1)) (binM mulM (varM 8) (varM 2))))
  (seqM (ifM (btestM (binM eqM (binM ixM (varM 0) (constM (.int 2))) (constM (.int 1)))) (retM (iteM (torM (btestM (binM leM (varM 4) (constM (.int 0)))) (btestM (binM ltM (varM 3) (constM (.int 0))))) (constM (.int 1)) (negM (constM (.int 1))))) nextM)
  (retM (iteM (torM (btestM (binM geM (varM 4) (constM (.int 0)))) (btestM (binM ltM (varM 3) (constM (.int 0))))) (negM (constM (.int 1))) (constM (.int 1)))))))))
noncomputable def F__law_beside : MF := defM 10 M__law_beside
noncomputable def M__law_floor : MS := (seqM (forM (rngI1 (aconsM (constM (.int 400)) anilM)) (gnameM 4) (seqM (ifM (btestM (binM ltM (binM subM (varM 3) (varM 2)) (constM (.int 2)))) brkM nextM)
  (seqM (setM 5 (binM fdivM (binM addM (varM 2) (varM 3)) (constM (.int 2))))
  (ifM (btestM (binM geM (callM F__law_beside (aconsM (varM 0) (aconsM (varM 5) (aconsM (varM 1) anilM)))) (constM (.int 0)))) (setM 2 (varM 5)) (setM 3 (varM 5))))))
  (retM (varM 2)))
noncomputable def F__law_floor : MF := defM 6 M__law_floor
noncomputable def M__law_compare : MS := (seqM (ifM (btestM (binM eqM (varM 0) (varM 1))) (retM (constM (.int 0))) nextM)
  (seqM (setM 2 (callM F__law_floor (aconsM (varM 0) (aconsM (constM (.int 1)) (aconsM (negM (constM (.int 2000))) (aconsM (constM (.int 2000)) anilM))))))
  (seqM (setM 3 (callM F__law_floor (aconsM (varM 1) (aconsM (constM (.int 1)) (aconsM (negM (constM (.int 2000))) (aconsM (constM (.int 2000)) anilM))))))
  (seqM (setM 4 (constM (.int 1)))
  (seqM (forM (rngI1 (aconsM (constM (.int 120)) anilM)) (gnameM 5) (seqM (ifM (btestM (binM neM (varM 2) (varM 3))) brkM nextM)
  (seqM (setM 4 (binM mulM (varM 4) (constM (.int 2))))
  (seqM (setM 2 (callM F__law_floor (aconsM (varM 0) (aconsM (varM 4) (aconsM (binM mulM (constM (.int 2)) (varM 2)) (aconsM (binM addM (binM mulM (constM (.int 2)) (varM 2)) (constM (.int 2))) anilM))))))
  (setM 3 (callM F__law_floor (aconsM (varM 1) (aconsM (varM 4) (aconsM (binM mulM (constM (.int 2)) (varM 3)) (aconsM (binM addM (binM mulM (constM (.int 2)) (varM 3)) (constM (.int 2))) anilM))))))))))
  (retM (binM subM (callM intF (aconsM (binM gtM (varM 2) (varM 3)) anilM)) (callM intF (aconsM (binM ltM (varM 2) (varM 3)) anilM)))))))))
noncomputable def F__law_compare : MF := defM 6 M__law_compare
noncomputable def M_two_roots_sign : MS := (seqM (setM 4 (callM F_sign (aconsM (binM mulM (binM ixM (varM 0) (constM (.int 0))) (varM 1)) anilM)))
  (seqM (setM 5 (callM F_sign (aconsM (binM mulM (binM ixM (varM 2) (constM (.int 0))) (varM 3)) anilM)))
  (seqM (ifM (torM (btestM (binM eqM (varM 4) (constM (.int 0)))) (torM (btestM (binM eqM (varM 5) (constM (.int 0)))) (btestM (binM eqM (varM 4) (varM 5))))) (retM (callM F_sign (aconsM (binM addM (varM 4) (varM 5)) anilM))) nextM)
  (retM (binM mulM (varM 4) (callM F_sign (aconsM (binM ixM (callM F_minus (aconsM (callM F_times (aconsM (tupM (aconsM (varM 1) (aconsM (constM (.int 1)) anilM))) (aconsM (callM F_times (aconsM (varM 0) (aconsM (varM 0) anilM))) anilM))) (aconsM (callM F_times (aconsM (tupM (aconsM (varM 3) (aconsM (constM (.int 1)) anilM))) (aconsM (callM F_times (aconsM (varM 2) (aconsM (varM 2) anilM))) anilM))) anilM))) (constM (.int 0))) anilM)))))))
noncomputable def F_two_roots_sign : MF := defM 6 M_two_roots_sign
noncomputable def M_total_sign : MS := (seqM (setM 5 (callM F_sign (aconsM (binM ixM (varM 0) (constM (.int 0))) anilM)))
  (seqM (setM 6 (callM F_two_roots_sign (aconsM (varM 1) (aconsM (varM 2) (aconsM (varM 3) (aconsM (varM 4) anilM))))))
  (seqM (ifM (torM (btestM (binM eqM (varM 5) (constM (.int 0)))) (torM (btestM (binM eqM (varM 6) (constM (.int 0)))) (btestM (binM eqM (varM 5) (varM 6))))) (retM (callM F_sign (aconsM (binM addM (varM 5) (varM 6)) anilM))) nextM)
  (seqM (setM 7 (callM F_plus (aconsM (callM F_times (aconsM (tupM (aconsM (varM 2) (aconsM (constM (.int 1)) anilM))) (aconsM (callM F_times (aconsM (varM 1) (aconsM (varM 1) anilM))) anilM))) (aconsM (callM F_times (aconsM (tupM (aconsM (varM 4) (aconsM (constM (.int 1)) anilM))) (aconsM (callM F_times (aconsM (varM 3) (aconsM (varM 3) anilM))) anilM))) anilM))))
  (retM (binM mulM (varM 5) (callM F_square_sign (aconsM (callM F_minus (aconsM (callM F_times (aconsM (varM 0) (aconsM (varM 0) anilM))) (aconsM (varM 7) anilM))) (aconsM (callM F_times (aconsM (tupM (aconsM (negM (constM (.int 2))) (aconsM (constM (.int 1)) anilM))) (aconsM (callM F_times (aconsM (varM 1) (aconsM (varM 3) anilM))) anilM))) (aconsM (binM mulM (varM 2) (varM 4)) anilM))))))))))
noncomputable def F_total_sign : MF := defM 8 M_total_sign
noncomputable def M_compare_numbers : MS := (seqM (exprM (callM F_check_number (aconsM (varM 0) (aconsM (constM (.str "first")) anilM))))
  (seqM (exprM (callM F_check_number (aconsM (varM 1) (aconsM (constM (.str "second")) anilM))))
  (seqM (asgM (gtupM 2 (gconsM (gnameM 2) (gconsM (gtupM 2 (gconsM (gnameM 4) (gconsM (gnameM 5) gnilM))) gnilM))) (callM F_parts_of (aconsM (varM 0) anilM)))
  (seqM (asgM (gtupM 2 (gconsM (gnameM 3) (gconsM (gtupM 2 (gconsM (gnameM 6) (gconsM (gnameM 7) gnilM))) gnilM))) (callM F_parts_of (aconsM (varM 1) anilM)))
  (retM (callM F_total_sign (aconsM (callM F_minus (aconsM (varM 4) (aconsM (varM 6) anilM))) (aconsM (varM 5) (aconsM (varM 2) (aconsM (tupM (aconsM (negM (binM ixM (varM 7) (constM (.int 0)))) (aconsM (binM ixM (varM 7) (constM (.int 1))) anilM))) (aconsM (varM 3) anilM)))))))))))
noncomputable def F_compare_numbers : MF := defM 8 M_compare_numbers
noncomputable def M__law_near : MS := (seqM (setM 2 (callM F__law_next (aconsM (varM 0) (aconsM (constM (.int 3)) anilM))))
  (seqM (ifM (btestM (binM eqM (varM 2) (constM (.int 0)))) (retM (varM 1)) nextM)
  (seqM (ifM (tandM (btestM (binM eqM (varM 2) (constM (.int 1)))) (btestM (binM eqM (binM ixM (varM 1) (constM (.int 0))) (constM (.str "root"))))) (retM (tupM (aconsM (constM (.str "root")) (aconsM (binM ixM (varM 1) (constM (.int 1))) (aconsM (binM subM (constM (.int 1)) (binM ixM (varM 1) (constM (.int 2)))) anilM))))) nextM)
  (seqM (setM 3 (binM addM (constM (.int 1)) (callM F__law_next (aconsM (varM 0) (aconsM (constM (.int 9999)) anilM)))))
  (seqM (setM 4 (binM addM (callM F__law_floor (aconsM (varM 1) (aconsM (varM 3) (aconsM (binM mulM (negM (constM (.int 2000))) (varM 3)) (aconsM (binM mulM (constM (.int 2000)) (varM 3)) anilM))))) (callM F__law_next (aconsM (varM 0) (aconsM (constM (.int 2)) anilM)))))
  (retM (tupM (aconsM (constM (.str "rational")) (aconsM (callM F__law_low (aconsM (varM 4) (aconsM (varM 3) anilM))) anilM)))))))))
noncomputable def F__law_near : MF := defM 5 M__law_near
end Zc
/-! the mirrors -/
namespace Zl
open PySem PySem.Spec PyProof.Rows L2 Z Zc
def tab : Tab where
  free := ["abs", "all", "bool", "int", "isinstance", "len", "list", "range", "str", "tuple"]
  bi := [("gcd", "math.gcd"), ("isqrt", "math.isqrt")]
  cls := (["OddsError", "BadValue", "sign", "reduced", "minus", "times", "square_sign", "plus", "two_roots_sign", "total_sign", "ratio", "parts_of", "is_square", "is_integer", "is_root", "is_rational", "is_number", "check_number", "compare_numbers", "_law_told", "_law_next", "_law_is_integer", "_law_equal", "_law_beside", "_law_floor", "_law_compare", "_law_gcd", "_law_low", "_law_near", "_law_root"] : List Str) ++ (["_law_is_square", "_law_ratio", "_law_number", "_law_stream", "law"] : List Str)
  exc := [("BadValue", ["name"])]
  ex := [("BadValue", "OddsError", true), ("BadValue", "BadValue", true)]
  ey := [("BadValue", "ValueError", true)]
  con := [("ZERO", (.tup [(.int 0), (.int 1)]))]
  ali := []
def subT : Str → Str → Option Bool := tab.sub
def fokT : Str → Str → Bool := tab.fok
noncomputable def M__law_told : MS := (tryM subT (some 2) (retM (callM F_compare_numbers (aconsM (varM 0) (aconsM (varM 1) anilM)))) [("BadValue", fun x => (retM (xfM fokT 2 x "name")))])
noncomputable def F__law_told : MF := defM 3 M__law_told
noncomputable def M_law : MS := (seqM (setM 1 (callM F__law_stream (aconsM (varM 0) anilM)))
  (seqM (setM 2 (callM F__law_number (aconsM (varM 1) anilM)))
  (seqM (setM 3 (callM F__law_number (aconsM (varM 1) anilM)))
  (seqM (ifM (btestM (binM eqM (callM F__law_next (aconsM (varM 1) (aconsM (constM (.int 3)) anilM))) (constM (.int 1)))) (setM 3 (callM F__law_near (aconsM (varM 1) (aconsM (varM 2) anilM)))) nextM)
  (seqM (setM 4 (callM F__law_compare (aconsM (varM 2) (aconsM (varM 3) anilM))))
  (seqM (ifM (tnotM (testM (callM F__law_equal (aconsM (lstM (aconsM (callM F__law_told (aconsM (varM 2) (aconsM (varM 3) anilM))) (aconsM (callM F__law_told (aconsM (varM 3) (aconsM (varM 2) anilM))) anilM))) (aconsM (lstM (aconsM (varM 4) (aconsM (binM subM (constM (.int 0)) (varM 4)) anilM))) anilM))))) (retM (constM (.bl false))) nextM)
  (seqM (setM 5 (binM ixM (lstM (aconsM (callM listF (aconsM (varM 2) anilM)) (aconsM (constM .non) (aconsM (tupM (aconsM (constM (.str "rational")) (aconsM (tupM (aconsM (constM (.int 2)) (aconsM (constM (.int 2)) anilM))) anilM))) (aconsM (constM (.int 0)) anilM))))) (callM F__law_next (aconsM (varM 1) (aconsM (constM (.int 4)) anilM)))))
  (retM (andM (binM eqM (callM F__law_told (aconsM (varM 5) (aconsM (varM 5) anilM))) (constM (.str "first"))) (binM eqM (callM F__law_told (aconsM (varM 2) (aconsM (varM 5) anilM))) (constM (.str "second"))))))))))))
noncomputable def F_law : MF := defM 6 M_law
end Zl
namespace Zl
open PySem PySem.Spec PyProof.Rows L2 Z Zc
def top (i : Nat) : Stmt := PySem.Challenge.pw_oddscall_k11_order_of_numbers.main.body.getD i (.Pass ⟨0, 0, 0, 0⟩)
abbrev FnP (K : PySem.W.Frag) (x : Str) (st : Stmt) (f : Addr) (fd : FuncData) : Prop := FunD K x x (defArgs st) (defBody st) (defScope st) [] [] f fd
section
variable {P : Program} {w : World} {K : PySem.W.Frag} {mg : Str → Option Value} {base : Heap}
theorem sc_sign : FnScope ["n"] ["n"] (defScope (top 13)) := ⟨rfl, rfl, rfl, by decide +kernel, rfl, by decide +kernel, by decide +kernel⟩
theorem sim_sign {f : Addr} {fd : FuncData} (F : FnP K "sign" (top 13) f fd) (hm : mg "sign" = some (.ref f)) (T : Tx tab K mg) : FS P w K mg base "sign" 1 1 F_sign := by
  refine fs_of (n := 1) (m := M_sign) F sc_sign rfl hm (F.bindsN fun _ _ _ _ _ _ us hl => match us, hl with | [_], _ => rfl) fun cdv A outer s H E hr => ?_
  have hu := hr.units
  have T_fok : XFs K tab.fok := T.fokE
  exact (ss_one (st_ret (s_bin o_sub (s_callTy c_int rfl (T.mn "int" (by decide)) (by decide +kernel) (s_acons (s_cmp o_gt (s_var (pv 0)) s_int (nomark _)) s_anil)) (s_callTy c_int rfl (T.mn "int" (by decide)) (by decide +kernel) (s_acons (s_cmp o_lt (s_var (pv 0)) s_int (nomark _)) s_anil)))))
theorem sc_reduced : FnScope ["n", "d", "common"] ["n", "d"] (defScope (top 8)) := ⟨rfl, rfl, rfl, by decide +kernel, rfl, by decide +kernel, by decide +kernel⟩
theorem sim_reduced {f : Addr} {fd : FuncData} (F : FnP K "reduced" (top 8) f fd) (hm : mg "reduced" = some (.ref f)) (T : Tx tab K mg) : FS P w K mg base "reduced" 1 2 F_reduced := by
  refine fs_of (n := 3) (m := M_reduced) F sc_reduced rfl hm (F.bindsN fun _ _ _ _ _ _ us hl => match us, hl with | [_, _], _ => rfl) fun cdv A outer s H E hr => ?_
  have hu := hr.units
  have T_fok : XFs K tab.fok := T.fokE
  exact (ss_cons (st_set (i := 2) sc_reduced.nd rfl (.inl rfl) (s_callF c_gcd rfl (T.mb "gcd" "math.gcd" (by decide)) (s_acons (s_var (pv 0)) (s_acons (s_var (pv 1)) s_anil))))
  (ss_one (st_ret (s_tup (s_acons (s_bin o_fdiv (s_var (pv 0)) (s_var (pv 2))) (s_acons (s_bin o_fdiv (s_var (pv 1)) (s_var (pv 2))) s_anil))))))
theorem sc_minus : FnScope ["a", "b"] ["a", "b"] (defScope (top 11)) := ⟨rfl, rfl, rfl, by decide +kernel, rfl, by decide +kernel, by decide +kernel⟩
theorem sim_minus {f : Addr} {fd : FuncData} (F : FnP K "minus" (top 11) f fd) (hm : mg "minus" = some (.ref f)) (T : Tx tab K mg) (fs_reduced : FS P w K mg base "reduced" 1 2 F_reduced) : FS P w K mg base "minus" 2 2 F_minus := by
  refine fs_of (n := 2) (m := M_minus) F sc_minus rfl hm (F.bindsN fun _ _ _ _ _ _ us hl => match us, hl with | [_, _], _ => rfl) fun cdv A outer s H E hr => ?_
  have hu := hr.units
  have T_fok : XFs K tab.fok := T.fokE
  exact (ss_one (st_ret (s_call fs_reduced hr (by first | decide | omega) rfl rfl (s_acons (s_bin o_sub (s_bin o_mul (s_ix (s_var (pv 0)) s_int) (s_ix (s_var (pv 1)) s_int)) (s_bin o_mul (s_ix (s_var (pv 0)) s_int) (s_ix (s_var (pv 1)) s_int))) (s_acons (s_bin o_mul (s_ix (s_var (pv 0)) s_int) (s_ix (s_var (pv 1)) s_int)) s_anil)) (hml := (la_cons (la_cons la_nil))))))
theorem sc_times : FnScope ["a", "b"] ["a", "b"] (defScope (top 12)) := ⟨rfl, rfl, rfl, by decide +kernel, rfl, by decide +kernel, by decide +kernel⟩
theorem sim_times {f : Addr} {fd : FuncData} (F : FnP K "times" (top 12) f fd) (hm : mg "times" = some (.ref f)) (T : Tx tab K mg) (fs_reduced : FS P w K mg base "reduced" 1 2 F_reduced) : FS P w K mg base "times" 2 2 F_times := by
  refine fs_of (n := 2) (m := M_times) F sc_times rfl hm (F.bindsN fun _ _ _ _ _ _ us hl => match us, hl with | [_, _], _ => rfl) fun cdv A outer s H E hr => ?_
  have hu := hr.units
  have T_fok : XFs K tab.fok := T.fokE
  exact (ss_one (st_ret (s_call fs_reduced hr (by first | decide | omega) rfl rfl (s_acons (s_bin o_mul (s_ix (s_var (pv 0)) s_int) (s_ix (s_var (pv 1)) s_int)) (s_acons (s_bin o_mul (s_ix (s_var (pv 0)) s_int) (s_ix (s_var (pv 1)) s_int)) s_anil)) (hml := (la_cons (la_cons la_nil))))))
theorem sc_square_sign : FnScope ["x", "y", "inside", "first", "second"] ["x", "y", "inside"] (defScope (top 21)) := ⟨rfl, rfl, rfl, by decide +kernel, rfl, by decide +kernel, by decide +kernel⟩
theorem sim_square_sign {f : Addr} {fd : FuncData} (F : FnP K "square_sign" (top 21) f fd) (hm : mg "square_sign" = some (.ref f)) (T : Tx tab K mg) (fs_sign : FS P w K mg base "sign" 1 1 F_sign) (fs_minus : FS P w K mg base "minus" 2 2 F_minus) (fs_times : FS P w K mg base "times" 2 2 F_times) : FS P w K mg base "square_sign" 3 3 F_square_sign := by
  refine fs_of (n := 5) (m := M_square_sign) F sc_square_sign rfl hm (F.bindsN fun _ _ _ _ _ _ us hl => match us, hl with | [_, _, _], _ => rfl) fun cdv A outer s H E hr => ?_
  have hu := hr.units
  have T_fok : XFs K tab.fok := T.fokE
  exact (ss_cons (st_set (i := 3) sc_square_sign.nd rfl (.inl rfl) (s_call fs_sign hr (by first | decide | omega) rfl rfl (s_acons (s_ix (s_var (pv 0)) s_int) s_anil) (hml := (la_cons la_nil))))
  (ss_cons (st_set (i := 4) sc_square_sign.nd rfl (.inl rfl) (s_call fs_sign hr (by first | decide | omega) rfl rfl (s_acons (s_bin o_mul (s_ix (s_var (pv 1)) s_int) (s_var (pv 2))) s_anil) (hml := (la_cons la_nil))))
  (ss_cons (st_if (t_of_w (w_or (t_cmp (o_eq hu) (s_var (pv 4)) s_int (nomark _)) (w_or1 (t_cmp (o_eq hu) (s_var (pv 3)) (s_var (pv 4)) (nomark _))))) (ss_one (st_ret (s_var (pv 3)))) ss_nil)
  (ss_cons (st_if (t_cmp (o_eq hu) (s_var (pv 3)) s_int (nomark _)) (ss_one (st_ret (s_var (pv 4)))) ss_nil)
  (ss_one (st_ret (s_bin o_mul (s_var (pv 3)) (s_call fs_sign hr (by first | decide | omega) rfl rfl (s_acons (s_ix (s_call fs_minus hr (by first | decide | omega) rfl rfl (s_acons (s_call fs_times hr (by first | decide | omega) rfl rfl (s_acons (s_var (pv 0)) (s_acons (s_var (pv 0)) s_anil)) (hml := (la_cons (la_cons la_nil)))) (s_acons (s_call fs_times hr (by first | decide | omega) rfl rfl (s_acons (s_tup (s_acons (s_var (pv 2)) (s_acons s_int s_anil))) (s_acons (s_call fs_times hr (by first | decide | omega) rfl rfl (s_acons (s_var (pv 1)) (s_acons (s_var (pv 1)) s_anil)) (hml := (la_cons (la_cons la_nil)))) s_anil)) (hml := (la_cons (la_cons la_nil)))) s_anil)) (hml := (la_cons (la_cons la_nil)))) s_int) s_anil) (hml := (la_cons la_nil))))))))))
theorem sc_plus : FnScope ["a", "b"] ["a", "b"] (defScope (top 10)) := ⟨rfl, rfl, rfl, by decide +kernel, rfl, by decide +kernel, by decide +kernel⟩
theorem sim_plus {f : Addr} {fd : FuncData} (F : FnP K "plus" (top 10) f fd) (hm : mg "plus" = some (.ref f)) (T : Tx tab K mg) (fs_reduced : FS P w K mg base "reduced" 1 2 F_reduced) : FS P w K mg base "plus" 2 2 F_plus := by
  refine fs_of (n := 2) (m := M_plus) F sc_plus rfl hm (F.bindsN fun _ _ _ _ _ _ us hl => match us, hl with | [_, _], _ => rfl) fun cdv A outer s H E hr => ?_
  have hu := hr.units
  have T_fok : XFs K tab.fok := T.fokE
  exact (ss_one (st_ret (s_call fs_reduced hr (by first | decide | omega) rfl rfl (s_acons (s_bin o_add (s_bin o_mul (s_ix (s_var (pv 0)) s_int) (s_ix (s_var (pv 1)) s_int)) (s_bin o_mul (s_ix (s_var (pv 0)) s_int) (s_ix (s_var (pv 1)) s_int))) (s_acons (s_bin o_mul (s_ix (s_var (pv 0)) s_int) (s_ix (s_var (pv 1)) s_int)) s_anil)) (hml := (la_cons (la_cons la_nil))))))
theorem sc_two_roots_sign : FnScope ["u", "d", "v", "e", "first", "second"] ["u", "d", "v", "e"] (defScope (top 22)) := ⟨rfl, rfl, rfl, by decide +kernel, rfl, by decide +kernel, by decide +kernel⟩
theorem sim_two_roots_sign {f : Addr} {fd : FuncData} (F : FnP K "two_roots_sign" (top 22) f fd) (hm : mg "two_roots_sign" = some (.ref f)) (T : Tx tab K mg) (fs_sign : FS P w K mg base "sign" 1 1 F_sign) (fs_minus : FS P w K mg base "minus" 2 2 F_minus) (fs_times : FS P w K mg base "times" 2 2 F_times) : FS P w K mg base "two_roots_sign" 3 4 F_two_roots_sign := by
  refine fs_of (n := 6) (m := M_two_roots_sign) F sc_two_roots_sign rfl hm (F.bindsN fun _ _ _ _ _ _ us hl => match us, hl with | [_, _, _, _], _ => rfl) fun cdv A outer s H E hr => ?_
  have hu := hr.units
  have T_fok : XFs K tab.fok := T.fokE
  exact (ss_cons (st_set (i := 4) sc_two_roots_sign.nd rfl (.inl rfl) (s_call fs_sign hr (by first | decide | omega) rfl rfl (s_acons (s_bin o_mul (s_ix (s_var (pv 0)) s_int) (s_var (pv 1))) s_anil) (hml := (la_cons la_nil))))
  (ss_cons (st_set (i := 5) sc_two_roots_sign.nd rfl (.inl rfl) (s_call fs_sign hr (by first | decide | omega) rfl rfl (s_acons (s_bin o_mul (s_ix (s_var (pv 2)) s_int) (s_var (pv 3))) s_anil) (hml := (la_cons la_nil))))
  (ss_cons (st_if (t_of_w (w_or (t_cmp (o_eq hu) (s_var (pv 4)) s_int (nomark _)) (w_or (t_cmp (o_eq hu) (s_var (pv 5)) s_int (nomark _)) (w_or1 (t_cmp (o_eq hu) (s_var (pv 4)) (s_var (pv 5)) (nomark _)))))) (ss_one (st_ret (s_call fs_sign hr (by first | decide | omega) rfl rfl (s_acons (s_bin o_add (s_var (pv 4)) (s_var (pv 5))) s_anil) (hml := (la_cons la_nil))))) ss_nil)
  (ss_one (st_ret (s_bin o_mul (s_var (pv 4)) (s_call fs_sign hr (by first | decide | omega) rfl rfl (s_acons (s_ix (s_call fs_minus hr (by first | decide | omega) rfl rfl (s_acons (s_call fs_times hr (by first | decide | omega) rfl rfl (s_acons (s_tup (s_acons (s_var (pv 1)) (s_acons s_int s_anil))) (s_acons (s_call fs_times hr (by first | decide | omega) rfl rfl (s_acons (s_var (pv 0)) (s_acons (s_var (pv 0)) s_anil)) (hml := (la_cons (la_cons la_nil)))) s_anil)) (hml := (la_cons (la_cons la_nil)))) (s_acons (s_call fs_times hr (by first | decide | omega) rfl rfl (s_acons (s_tup (s_acons (s_var (pv 3)) (s_acons s_int s_anil))) (s_acons (s_call fs_times hr (by first | decide | omega) rfl rfl (s_acons (s_var (pv 2)) (s_acons (s_var (pv 2)) s_anil)) (hml := (la_cons (la_cons la_nil)))) s_anil)) (hml := (la_cons (la_cons la_nil)))) s_anil)) (hml := (la_cons (la_cons la_nil)))) s_int) s_anil) (hml := (la_cons la_nil)))))))))
theorem sc_total_sign : FnScope ["r", "u", "d", "v", "e", "first", "second", "squares"] ["r", "u", "d", "v", "e"] (defScope (top 23)) := ⟨rfl, rfl, rfl, by decide +kernel, rfl, by decide +kernel, by decide +kernel⟩
theorem sim_total_sign {f : Addr} {fd : FuncData} (F : FnP K "total_sign" (top 23) f fd) (hm : mg "total_sign" = some (.ref f)) (T : Tx tab K mg) (fs_square_sign : FS P w K mg base "square_sign" 3 3 F_square_sign) (fs_times : FS P w K mg base "times" 2 2 F_times) (fs_minus : FS P w K mg base "minus" 2 2 F_minus) (fs_plus : FS P w K mg base "plus" 2 2 F_plus) (fs_sign : FS P w K mg base "sign" 1 1 F_sign) (fs_two_roots_sign : FS P w K mg base "two_roots_sign" 3 4 F_two_roots_sign) : FS P w K mg base "total_sign" 4 5 F_total_sign := by
  refine fs_of (n := 8) (m := M_total_sign) F sc_total_sign rfl hm (F.bindsN fun _ _ _ _ _ _ us hl => match us, hl with | [_, _, _, _, _], _ => rfl) fun cdv A outer s H E hr => ?_
  have hu := hr.units
  have T_fok : XFs K tab.fok := T.fokE
  exact (ss_cons (st_set (i := 5) sc_total_sign.nd rfl (.inl rfl) (s_call fs_sign hr (by first | decide | omega) rfl rfl (s_acons (s_ix (s_var (pv 0)) s_int) s_anil) (hml := (la_cons la_nil))))
  (ss_cons (st_set (i := 6) sc_total_sign.nd rfl (.inl rfl) (s_call fs_two_roots_sign hr (by first | decide | omega) rfl rfl (s_acons (s_var (pv 1)) (s_acons (s_var (pv 2)) (s_acons (s_var (pv 3)) (s_acons (s_var (pv 4)) s_anil)))) (hml := (la_cons (la_cons (la_cons (la_cons la_nil)))))))
  (ss_cons (st_if (t_of_w (w_or (t_cmp (o_eq hu) (s_var (pv 5)) s_int (nomark _)) (w_or (t_cmp (o_eq hu) (s_var (pv 6)) s_int (nomark _)) (w_or1 (t_cmp (o_eq hu) (s_var (pv 5)) (s_var (pv 6)) (nomark _)))))) (ss_one (st_ret (s_call fs_sign hr (by first | decide | omega) rfl rfl (s_acons (s_bin o_add (s_var (pv 5)) (s_var (pv 6))) s_anil) (hml := (la_cons la_nil))))) ss_nil)
  (ss_cons (st_set (i := 7) sc_total_sign.nd rfl (.inl rfl) (s_call fs_plus hr (by first | decide | omega) rfl rfl (s_acons (s_call fs_times hr (by first | decide | omega) rfl rfl (s_acons (s_tup (s_acons (s_var (pv 2)) (s_acons s_int s_anil))) (s_acons (s_call fs_times hr (by first | decide | omega) rfl rfl (s_acons (s_var (pv 1)) (s_acons (s_var (pv 1)) s_anil)) (hml := (la_cons (la_cons la_nil)))) s_anil)) (hml := (la_cons (la_cons la_nil)))) (s_acons (s_call fs_times hr (by first | decide | omega) rfl rfl (s_acons (s_tup (s_acons (s_var (pv 4)) (s_acons s_int s_anil))) (s_acons (s_call fs_times hr (by first | decide | omega) rfl rfl (s_acons (s_var (pv 3)) (s_acons (s_var (pv 3)) s_anil)) (hml := (la_cons (la_cons la_nil)))) s_anil)) (hml := (la_cons (la_cons la_nil)))) s_anil)) (hml := (la_cons (la_cons la_nil)))))
  (ss_one (st_ret (s_bin o_mul (s_var (pv 5)) (s_call fs_square_sign hr (by first | decide | omega) rfl rfl (s_acons (s_call fs_minus hr (by first | decide | omega) rfl rfl (s_acons (s_call fs_times hr (by first | decide | omega) rfl rfl (s_acons (s_var (pv 0)) (s_acons (s_var (pv 0)) s_anil)) (hml := (la_cons (la_cons la_nil)))) (s_acons (s_var (pv 7)) s_anil)) (hml := (la_cons (la_cons la_nil)))) (s_acons (s_call fs_times hr (by first | decide | omega) rfl rfl (s_acons (s_tup (s_acons (s_neg s_int) (s_acons s_int s_anil))) (s_acons (s_call fs_times hr (by first | decide | omega) rfl rfl (s_acons (s_var (pv 1)) (s_acons (s_var (pv 3)) s_anil)) (hml := (la_cons (la_cons la_nil)))) s_anil)) (hml := (la_cons (la_cons la_nil)))) (s_acons (s_bin o_mul (s_var (pv 2)) (s_var (pv 4))) s_anil))) (hml := (la_cons (la_cons (la_cons la_nil))))))))))))
theorem sc_ratio : FnScope ["n", "d"] ["n", "d"] (defScope (top 9)) := ⟨rfl, rfl, rfl, by decide +kernel, rfl, by decide +kernel, by decide +kernel⟩
theorem sim_ratio {f : Addr} {fd : FuncData} (F : FnP K "ratio" (top 9) f fd) (hm : mg "ratio" = some (.ref f)) (T : Tx tab K mg) (fs_reduced : FS P w K mg base "reduced" 1 2 F_reduced) (xc_BadValue : XC P w K mg base "BadValue" 1 ["name"]) : FS P w K mg base "ratio" 3 2 F_ratio := by
  refine fs_of (n := 2) (m := M_ratio) F sc_ratio rfl hm (F.bindsN fun _ _ _ _ _ _ us hl => match us, hl with | [_, _], _ => rfl) fun cdv A outer s H E hr => ?_
  have hu := hr.units
  have T_fok : XFs K tab.fok := T.fokE
  exact (ss_cons (st_if (t_cmp (o_eq hu) (s_var (pv 1)) s_int (nomark _)) (ss_one (st_raise rfl xc_BadValue hr (by first | decide | omega) rfl (s_acons s_str s_anil))) ss_nil)
  (ss_one (st_ret (s_if (t_cmp o_gt (s_var (pv 1)) s_int (nomark _)) (s_call fs_reduced hr (by first | decide | omega) rfl rfl (s_acons (s_var (pv 0)) (s_acons (s_var (pv 1)) s_anil)) (hml := (la_cons (la_cons la_nil)))) (s_call fs_reduced hr (by first | decide | omega) rfl rfl (s_acons (s_neg (s_var (pv 0))) (s_acons (s_neg (s_var (pv 1))) s_anil)) (hml := (la_cons (la_cons la_nil))))))))
theorem sc_parts_of : FnScope ["number", "c", "b", "a"] ["number"] (defScope (top 20)) := ⟨rfl, rfl, rfl, by decide +kernel, rfl, by decide +kernel, by decide +kernel⟩
theorem sim_parts_of {f : Addr} {fd : FuncData} (F : FnP K "parts_of" (top 20) f fd) (hm : mg "parts_of" = some (.ref f)) (T : Tx tab K mg) (fs_ratio : FS P w K mg base "ratio" 3 2 F_ratio) : FS P w K mg base "parts_of" 4 1 F_parts_of := by
  refine fs_of (n := 4) (m := M_parts_of) F sc_parts_of rfl hm (F.bindsN fun _ _ _ _ _ _ us hl => match us, hl with | [_], _ => rfl) fun cdv A outer s H E hr => ?_
  have hu := hr.units
  have T_fok : XFs K tab.fok := T.fokE
  exact (ss_cons (st_if (t_cmp (o_eq hu) (s_ix (s_var (pv 0)) s_int) s_str (nomark _)) (ss_one (st_ret (s_tup (s_acons s_int (s_acons (s_tup (s_acons (s_ix (s_var (pv 0)) s_int) (s_acons (s_con rfl (T.con "ZERO" _ (List.mem_of_getElem? (i := 0) rfl))) s_anil))) s_anil))))) ss_nil)
  (ss_cons (st_asg (s_ix (s_var (pv 0)) s_int) (sg_tup rfl (sgs_cons (sg_name (pg_name (i := 1) sc_parts_of.nd rfl (.inl rfl))) (sgs_cons (sg_name (pg_name (i := 2) sc_parts_of.nd rfl (.inl rfl))) (sgs_cons (sg_name (pg_name (i := 3) sc_parts_of.nd rfl (.inl rfl))) sgs_nil)))))
  (ss_one (st_ret (s_tup (s_acons (s_bin o_sub (s_bin o_mul (s_var (pv 2)) (s_var (pv 2))) (s_bin o_mul (s_bin o_mul s_int (s_var (pv 3))) (s_var (pv 1)))) (s_acons (s_tup (s_acons (s_call fs_ratio hr (by first | decide | omega) rfl rfl (s_acons (s_neg (s_var (pv 2))) (s_acons (s_bin o_mul s_int (s_var (pv 3))) s_anil)) (hml := (la_cons (la_cons la_nil)))) (s_acons (s_call fs_ratio hr (by first | decide | omega) rfl rfl (s_acons (s_bin o_sub (s_bin o_mul s_int (s_ix (s_var (pv 0)) s_int)) s_int) (s_acons (s_bin o_mul s_int (s_var (pv 3))) s_anil)) (hml := (la_cons (la_cons la_nil)))) s_anil))) s_anil)))))))
theorem sc_is_square : FnScope ["n"] ["n"] (defScope (top 15)) := ⟨rfl, rfl, rfl, by decide +kernel, rfl, by decide +kernel, by decide +kernel⟩
theorem sim_is_square {f : Addr} {fd : FuncData} (F : FnP K "is_square" (top 15) f fd) (hm : mg "is_square" = some (.ref f)) (T : Tx tab K mg) : FS P w K mg base "is_square" 1 1 F_is_square := by
  refine fs_of (n := 1) (m := M_is_square) F sc_is_square rfl hm (F.bindsN fun _ _ _ _ _ _ us hl => match us, hl with | [_], _ => rfl) fun cdv A outer s H E hr => ?_
  have hu := hr.units
  have T_fok : XFs K tab.fok := T.fokE
  exact (ss_one (st_ret (s_cmp (o_eq hu) (s_bin o_mul (s_callF c_isqrt rfl (T.mb "isqrt" "math.isqrt" (by decide)) (s_acons (s_var (pv 0)) s_anil)) (s_callF c_isqrt rfl (T.mb "isqrt" "math.isqrt" (by decide)) (s_acons (s_var (pv 0)) s_anil))) (s_var (pv 0)) (nomark _))))
theorem sc_is_integer : FnScope ["x"] ["x"] (defScope (top 6)) := ⟨rfl, rfl, rfl, by decide +kernel, rfl, by decide +kernel, by decide +kernel⟩
theorem sim_is_integer {f : Addr} {fd : FuncData} (F : FnP K "is_integer" (top 6) f fd) (hm : mg "is_integer" = some (.ref f)) (T : Tx tab K mg) : FS P w K mg base "is_integer" 1 1 F_is_integer := by
  refine fs_of (n := 1) (m := M_is_integer) F sc_is_integer rfl hm (F.bindsN fun _ _ _ _ _ _ us hl => match us, hl with | [_], _ => rfl) fun cdv A outer s H E hr => ?_
  have hu := hr.units
  have T_fok : XFs K tab.fok := T.fokE
  exact (ss_one (st_ret (s_and (s_isi rfl (T.mn "isinstance" (by decide)) rfl (T.mn "int" (by decide)) (by decide +kernel) (s_var (pv 0))) (s_one (s_not (s_isi rfl (T.mn "isinstance" (by decide)) rfl (T.mn "bool" (by decide)) (by decide +kernel) (s_var (pv 0))))))))
theorem sc_is_root : FnScope ["x", "inside", "c", "b", "a", "one"] ["x"] (defScope (top 17)) := ⟨rfl, rfl, rfl, by decide +kernel, rfl, by decide +kernel, by decide +kernel⟩
theorem sim_is_root {f : Addr} {fd : FuncData} (F : FnP K "is_root" (top 17) f fd) (hm : mg "is_root" = some (.ref f)) (T : Tx tab K mg) (fs_is_square : FS P w K mg base "is_square" 1 1 F_is_square) (fs_is_integer : FS P w K mg base "is_integer" 1 1 F_is_integer) : FS P w K mg base "is_root" 2 1 F_is_root := by
  refine fs_of (n := 6) (m := M_is_root) F sc_is_root rfl hm (F.bindsN fun _ _ _ _ _ _ us hl => match us, hl with | [_], _ => rfl) fun cdv A outer s H E hr => ?_
  have hu := hr.units
  have T_fok : XFs K tab.fok := T.fokE
  exact (ss_cons (st_if (t_of_w (w_or (t_cmp (o_ne hu) (s_callB c_len rfl (T.mn "len" (by decide)) (by decide +kernel) (s_acons (s_var (pv 0)) s_anil)) s_int (nomark _)) (w_or (t_not (t_truth (s_isi rfl (T.mn "isinstance" (by decide)) rfl (T.mn "tuple" (by decide)) (by decide +kernel) (s_ix (s_var (pv 0)) s_int)))) (w_or (t_cmp (o_ne hu) (s_callB c_len rfl (T.mn "len" (by decide)) (by decide +kernel) (s_acons (s_ix (s_var (pv 0)) s_int) s_anil)) s_int (nomark _)) (w_or1 (t_not (t_truth (s_callB (c_all rfl) rfl (T.mn "all" (by decide)) (by decide +kernel) (s_acons (s_lc (own := [("one", 5)]) rfl rfl sc_is_root.nd (si_seq (s_ix (s_var (pv 0)) s_int)) (blkOk_by (N := ["x", "inside", "c", "b", "a", "one"]) (sc := defScope (top 17)) (own := [("one", 5)]) (by decide +kernel)) (gf_name (fun s H C cl fp => pg_name (i := 5) sc_is_root.nd rfl (.inl rfl)) (by decide)) tf_nil (fun s H C cl fp => (s_call fs_is_integer hr (by first | decide | omega) rfl rfl (s_acons (s_var (pv 5)) s_anil) (hml := (la_cons la_nil))))) s_anil))))))))) (ss_one (st_ret s_bl)) ss_nil)
  (ss_cons (st_if (t_of_w (w_or (t_not (t_truth (s_call fs_is_integer hr (by first | decide | omega) rfl rfl (s_acons (s_ix (s_var (pv 0)) s_int) s_anil) (hml := (la_cons la_nil))))) (w_or1 (t_cmp (o_notin (hu65 hr)) (s_ix (s_var (pv 0)) s_int) (s_tup (s_acons s_int (s_acons s_int s_anil))) (by first | rfl | with_unfolding_all rfl))))) (ss_one (st_ret s_bl)) ss_nil)
  (ss_cons (st_asg (s_ix (s_var (pv 0)) s_int) (sg_tup rfl (sgs_cons (sg_name (pg_name (i := 2) sc_is_root.nd rfl (.inl rfl))) (sgs_cons (sg_name (pg_name (i := 3) sc_is_root.nd rfl (.inl rfl))) (sgs_cons (sg_name (pg_name (i := 4) sc_is_root.nd rfl (.inl rfl))) sgs_nil)))))
  (ss_cons (st_set (i := 1) sc_is_root.nd rfl (.inl rfl) (s_bin o_sub (s_bin o_mul (s_var (pv 3)) (s_var (pv 3))) (s_bin o_mul (s_bin o_mul s_int (s_var (pv 4))) (s_var (pv 2)))))
  (ss_one (st_ret (s_and (s_cmp o_gt (s_var (pv 4)) s_int (nomark _)) (s_and (s_cmp (o_eq hu) (s_callF c_gcd rfl (T.mb "gcd" "math.gcd" (by decide)) (s_acons (s_callF c_gcd rfl (T.mb "gcd" "math.gcd" (by decide)) (s_acons (s_var (pv 4)) (s_acons (s_var (pv 3)) s_anil))) (s_acons (s_var (pv 2)) s_anil))) s_int (nomark _)) (s_and (s_cmp o_gt (s_var (pv 1)) s_int (nomark _)) (s_one (s_not (s_call fs_is_square hr (by first | decide | omega) rfl rfl (s_acons (s_var (pv 1)) s_anil) (hml := (la_cons la_nil))))))))))))))
theorem sc_is_rational : FnScope ["x", "n", "d"] ["x"] (defScope (top 7)) := ⟨rfl, rfl, rfl, by decide +kernel, rfl, by decide +kernel, by decide +kernel⟩
theorem sim_is_rational {f : Addr} {fd : FuncData} (F : FnP K "is_rational" (top 7) f fd) (hm : mg "is_rational" = some (.ref f)) (T : Tx tab K mg) (fs_is_integer : FS P w K mg base "is_integer" 1 1 F_is_integer) : FS P w K mg base "is_rational" 2 1 F_is_rational := by
  refine fs_of (n := 3) (m := M_is_rational) F sc_is_rational rfl hm (F.bindsN fun _ _ _ _ _ _ us hl => match us, hl with | [_], _ => rfl) fun cdv A outer s H E hr => ?_
  have hu := hr.units
  have T_fok : XFs K tab.fok := T.fokE
  exact (ss_cons (st_if (t_of_w (w_or (t_not (t_truth (s_isi rfl (T.mn "isinstance" (by decide)) rfl (T.mn "tuple" (by decide)) (by decide +kernel) (s_var (pv 0))))) (w_or1 (t_cmp (o_ne hu) (s_callB c_len rfl (T.mn "len" (by decide)) (by decide +kernel) (s_acons (s_var (pv 0)) s_anil)) s_int (nomark _))))) (ss_one (st_ret s_bl)) ss_nil)
  (ss_cons (st_asg (s_var (pv 0)) (sg_tup rfl (sgs_cons (sg_name (pg_name (i := 1) sc_is_rational.nd rfl (.inl rfl))) (sgs_cons (sg_name (pg_name (i := 2) sc_is_rational.nd rfl (.inl rfl))) sgs_nil))))
  (ss_one (st_ret (s_and (s_call fs_is_integer hr (by first | decide | omega) rfl rfl (s_acons (s_var (pv 1)) s_anil) (hml := (la_cons la_nil))) (s_and (s_call fs_is_integer hr (by first | decide | omega) rfl rfl (s_acons (s_var (pv 2)) s_anil) (hml := (la_cons la_nil))) (s_and (s_cmp o_gt (s_var (pv 2)) s_int (nomark _)) (s_one (s_cmp (o_eq hu) (s_callF c_gcd rfl (T.mb "gcd" "math.gcd" (by decide)) (s_acons (s_var (pv 1)) (s_acons (s_var (pv 2)) s_anil))) s_int (nomark _))))))))))
theorem sc_is_number : FnScope ["x"] ["x"] (defScope (top 18)) := ⟨rfl, rfl, rfl, by decide +kernel, rfl, by decide +kernel, by decide +kernel⟩
theorem sim_is_number {f : Addr} {fd : FuncData} (F : FnP K "is_number" (top 18) f fd) (hm : mg "is_number" = some (.ref f)) (T : Tx tab K mg) (fs_is_root : FS P w K mg base "is_root" 2 1 F_is_root) (fs_is_rational : FS P w K mg base "is_rational" 2 1 F_is_rational) : FS P w K mg base "is_number" 3 1 F_is_number := by
  refine fs_of (n := 1) (m := M_is_number) F sc_is_number rfl hm (F.bindsN fun _ _ _ _ _ _ us hl => match us, hl with | [_], _ => rfl) fun cdv A outer s H E hr => ?_
  have hu := hr.units
  have T_fok : XFs K tab.fok := T.fokE
  exact (ss_cons (st_if (t_of_w (w_or (t_not (t_truth (s_isi rfl (T.mn "isinstance" (by decide)) rfl (T.mn "tuple" (by decide)) (by decide +kernel) (s_var (pv 0))))) (w_or (t_cmp o_lt (s_callB c_len rfl (T.mn "len" (by decide)) (by decide +kernel) (s_acons (s_var (pv 0)) s_anil)) s_int (nomark _)) (w_or1 (t_not (t_truth (s_isi rfl (T.mn "isinstance" (by decide)) rfl (T.mn "str" (by decide)) (by decide +kernel) (s_ix (s_var (pv 0)) s_int)))))))) (ss_one (st_ret s_bl)) ss_nil)
  (ss_cons (st_if (t_cmp (o_eq hu) (s_ix (s_var (pv 0)) s_int) s_str (nomark _)) (ss_one (st_ret (s_and (s_cmp (o_eq hu) (s_callB c_len rfl (T.mn "len" (by decide)) (by decide +kernel) (s_acons (s_var (pv 0)) s_anil)) s_int (nomark _)) (s_one (s_call fs_is_rational hr (by first | decide | omega) rfl rfl (s_acons (s_ix (s_var (pv 0)) s_int) s_anil) (hml := (la_cons la_nil))))))) ss_nil)
  (ss_one (st_ret (s_and (s_cmp (o_eq hu) (s_ix (s_var (pv 0)) s_int) s_str (nomark _)) (s_one (s_call fs_is_root hr (by first | decide | omega) rfl rfl (s_acons (s_var (pv 0)) s_anil) (hml := (la_cons la_nil)))))))))
theorem sc_check_number : FnScope ["x", "name"] ["x", "name"] (defScope (top 19)) := ⟨rfl, rfl, rfl, by decide +kernel, rfl, by decide +kernel, by decide +kernel⟩
theorem sim_check_number {f : Addr} {fd : FuncData} (F : FnP K "check_number" (top 19) f fd) (hm : mg "check_number" = some (.ref f)) (T : Tx tab K mg) (fs_is_number : FS P w K mg base "is_number" 3 1 F_is_number) (xc_BadValue : XC P w K mg base "BadValue" 1 ["name"]) : FS P w K mg base "check_number" 4 2 F_check_number := by
  refine fs_of (n := 2) (m := M_check_number) F sc_check_number rfl hm (F.bindsN fun _ _ _ _ _ _ us hl => match us, hl with | [_, _], _ => rfl) fun cdv A outer s H E hr => ?_
  have hu := hr.units
  have T_fok : XFs K tab.fok := T.fokE
  exact (ss_one (st_if (t_not (t_truth (s_call fs_is_number hr (by first | decide | omega) rfl rfl (s_acons (s_var (pv 0)) s_anil) (hml := (la_cons la_nil))))) (ss_one (st_raise rfl xc_BadValue hr (by first | decide | omega) rfl (s_acons (s_var (pv 1)) s_anil))) ss_nil))
theorem sc_compare_numbers : FnScope ["first", "second", "d", "e", "x", "u", "y", "v"] ["first", "second"] (defScope (top 24)) := ⟨rfl, rfl, rfl, by decide +kernel, rfl, by decide +kernel, by decide +kernel⟩
theorem sim_compare_numbers {f : Addr} {fd : FuncData} (F : FnP K "compare_numbers" (top 24) f fd) (hm : mg "compare_numbers" = some (.ref f)) (T : Tx tab K mg) (fs_total_sign : FS P w K mg base "total_sign" 4 5 F_total_sign) (fs_minus : FS P w K mg base "minus" 2 2 F_minus) (fs_parts_of : FS P w K mg base "parts_of" 4 1 F_parts_of) (fs_check_number : FS P w K mg base "check_number" 4 2 F_check_number) : FS P w K mg base "compare_numbers" 5 2 F_compare_numbers := by
  refine fs_of (n := 8) (m := M_compare_numbers) F sc_compare_numbers rfl hm (F.bindsN fun _ _ _ _ _ _ us hl => match us, hl with | [_, _], _ => rfl) fun cdv A outer s H E hr => ?_
  have hu := hr.units
  have T_fok : XFs K tab.fok := T.fokE
  exact (ss_cons (st_expr (s_call fs_check_number hr (by first | decide | omega) rfl rfl (s_acons (s_var (pv 0)) (s_acons s_str s_anil)) (hml := (la_cons (la_cons la_nil)))))
  (ss_cons (st_expr (s_call fs_check_number hr (by first | decide | omega) rfl rfl (s_acons (s_var (pv 1)) (s_acons s_str s_anil)) (hml := (la_cons (la_cons la_nil)))))
  (ss_cons (st_asg (s_call fs_parts_of hr (by first | decide | omega) rfl rfl (s_acons (s_var (pv 0)) s_anil) (hml := (la_cons la_nil))) (sg_tup rfl (sgs_cons (sg_name (pg_name (i := 2) sc_compare_numbers.nd rfl (.inl rfl))) (sgs_cons (sg_tup rfl (sgs_cons (sg_name (pg_name (i := 4) sc_compare_numbers.nd rfl (.inl rfl))) (sgs_cons (sg_name (pg_name (i := 5) sc_compare_numbers.nd rfl (.inl rfl))) sgs_nil))) sgs_nil))))
  (ss_cons (st_asg (s_call fs_parts_of hr (by first | decide | omega) rfl rfl (s_acons (s_var (pv 1)) s_anil) (hml := (la_cons la_nil))) (sg_tup rfl (sgs_cons (sg_name (pg_name (i := 3) sc_compare_numbers.nd rfl (.inl rfl))) (sgs_cons (sg_tup rfl (sgs_cons (sg_name (pg_name (i := 6) sc_compare_numbers.nd rfl (.inl rfl))) (sgs_cons (sg_name (pg_name (i := 7) sc_compare_numbers.nd rfl (.inl rfl))) sgs_nil))) sgs_nil))))
  (ss_one (st_ret (s_call fs_total_sign hr (by first | decide | omega) rfl rfl (s_acons (s_call fs_minus hr (by first | decide | omega) rfl rfl (s_acons (s_var (pv 4)) (s_acons (s_var (pv 6)) s_anil)) (hml := (la_cons (la_cons la_nil)))) (s_acons (s_var (pv 5)) (s_acons (s_var (pv 2)) (s_acons (s_tup (s_acons (s_neg (s_ix (s_var (pv 7)) s_int)) (s_acons (s_ix (s_var (pv 7)) s_int) s_anil))) (s_acons (s_var (pv 3)) s_anil))))) (hml := (la_cons (la_cons (la_cons (la_cons (la_cons la_nil)))))))))))))
theorem sc__law_told : FnScope ["_law_first", "_law_second", "e"] ["_law_first", "_law_second"] (defScope (top 42)) := ⟨rfl, rfl, rfl, by decide +kernel, rfl, by decide +kernel, by decide +kernel⟩
theorem sim__law_told {f : Addr} {fd : FuncData} (F : FnP K "_law_told" (top 42) f fd) (hm : mg "_law_told" = some (.ref f)) (T : Tx tab K mg) (fs_compare_numbers : FS P w K mg base "compare_numbers" 5 2 F_compare_numbers) : FS P w K mg base "_law_told" 6 2 F__law_told := by
  refine fs_of (n := 3) (m := M__law_told) F sc__law_told rfl hm (F.bindsN fun _ _ _ _ _ _ us hl => match us, hl with | [_, _], _ => rfl) fun cdv A outer s H E hr => ?_
  have hu := hr.units
  have T_fok : XFs K tab.fok := T.fokE
  exact (ss_one (st_try_as (i := 2) rfl rfl sc__law_told.nd rfl rfl ⟨rfl, by decide, .inl (T.mc "BadValue" (by decide))⟩ (fun z b hz => (T.subE hz).1) (fun pn xe hp => (ss_one (st_ret (s_call fs_compare_numbers hr (by first | decide | omega) rfl rfl (s_acons (s_var (pv 0)) (s_acons (s_var (pv 1)) s_anil)) (hml := (la_cons (la_cons la_nil))))))) (fun a oe cls d pn x hz hf => (ss_one (st_ret (s_xf T_fok hz hf (pv 2)))))))
theorem sc__law_next : FnScope ["_law_stream_here", "_law_many", "_law_digit", "_law_k", "_law_cell"] ["_law_stream_here", "_law_many"] (defScope (top 27)) := ⟨rfl, rfl, rfl, by decide +kernel, rfl, by decide +kernel, by decide +kernel⟩
theorem sim__law_next {f : Addr} {fd : FuncData} (F : FnP K "_law_next" (top 27) f fd) (hm : mg "_law_next" = some (.ref f)) (T : Tx tab K mg) : FS P w K mg base "_law_next" 1 2 F__law_next := by
  refine fs_of (n := 5) (m := M__law_next) F sc__law_next rfl hm (F.bindsN fun _ _ _ _ _ _ us hl => match us, hl with | [_, _], _ => rfl) fun cdv A outer s H E hr => ?_
  have hu := hr.units
  have T_fok : XFs K tab.fok := T.fokE
  exact (ss_cons (st_if (t_cmp (o_eq hu) (s_ix (s_var (pv 0)) s_int) s_int (nomark _)) (ss_cons (st_set (i := 3) sc__law_next.nd rfl (.inl rfl) (s_ix (s_var (pv 0)) s_int))
  (ss_cons (st_set (i := 4) sc__law_next.nd rfl (.inl rfl) (s_bin o_add s_int (s_var (pv 3))))
  (ss_cons (st_if (t_cmp o_lt (s_var (pv 3)) (s_callB c_len rfl (T.mn "len" (by decide)) (by decide +kernel) (s_acons (s_ix (s_var (pv 0)) s_int) s_anil)) (nomark _)) (ss_one (st_set (i := 4) sc__law_next.nd rfl (.inl rfl) (s_callB c_abs rfl (T.mn "abs" (by decide)) (by decide +kernel) (s_acons (s_ix (s_ix (s_var (pv 0)) s_int) (s_var (pv 3))) s_anil)))) ss_nil)
  (ss_cons (st_if (t_cmp o_lt (s_var (pv 4)) (s_bin o_pow s_int s_int) (nomark _)) (ss_cons (st_set (i := 4) sc__law_next.nd rfl (.inl rfl) (s_bin o_mod (s_callTy c_int rfl (T.mn "int" (by decide)) (by decide +kernel) (s_acons (s_bin o_add (s_bin o_add (s_bin o_mul (s_var (pv 4)) s_int) (s_bin o_mul (s_var (pv 3)) s_int)) s_int) s_anil)) s_int))
  (ss_one (st_set (i := 4) sc__law_next.nd rfl (.inl rfl) (s_bin o_add (s_bin o_mul (s_bin o_mod (s_callTy c_int rfl (T.mn "int" (by decide)) (by decide +kernel) (s_acons (s_bin o_add (s_bin o_mul (s_var (pv 4)) s_int) s_int) s_anil)) s_int) s_int) (s_var (pv 4)))))) ss_nil)
  (ss_cons (st_put p_list (s_var (pv 0)) s_int (s_var (pv 4)))
  (ss_one (st_put p_list (s_var (pv 0)) s_int (s_bin o_add (s_var (pv 3)) s_int)))))))) ss_nil)
  (ss_cons (st_set (i := 2) sc__law_next.nd rfl (.inl rfl) (s_bin o_mod (s_callTy c_int rfl (T.mn "int" (by decide)) (by decide +kernel) (s_acons (s_ix (s_var (pv 0)) s_int) s_anil)) (s_var (pv 1))))
  (ss_cons (st_put p_list (s_var (pv 0)) s_int (s_bin o_fdiv (s_ix (s_var (pv 0)) s_int) (s_var (pv 1))))
  (ss_one (st_ret (s_var (pv 2)))))))
theorem sc__law_is_integer : FnScope ["_law_actual"] ["_law_actual"] (defScope (top 28)) := ⟨rfl, rfl, rfl, by decide +kernel, rfl, by decide +kernel, by decide +kernel⟩
theorem sim__law_is_integer {f : Addr} {fd : FuncData} (F : FnP K "_law_is_integer" (top 28) f fd) (hm : mg "_law_is_integer" = some (.ref f)) (T : Tx tab K mg) : FS P w K mg base "_law_is_integer" 1 1 F__law_is_integer := by
  refine fs_of (n := 1) (m := M__law_is_integer) F sc__law_is_integer rfl hm (F.bindsN fun _ _ _ _ _ _ us hl => match us, hl with | [_], _ => rfl) fun cdv A outer s H E hr => ?_
  have hu := hr.units
  have T_fok : XFs K tab.fok := T.fokE
  exact (ss_one (st_ret (s_and (s_isi rfl (T.mn "isinstance" (by decide)) rfl (T.mn "int" (by decide)) (by decide +kernel) (s_var (pv 0))) (s_one (s_not (s_isi rfl (T.mn "isinstance" (by decide)) rfl (T.mn "bool" (by decide)) (by decide +kernel) (s_var (pv 0))))))))
theorem sc__law_equal : FnScope ["_law_actual", "_law_due", "_law_at"] ["_law_actual", "_law_due"] (defScope (top 35)) := ⟨rfl, rfl, rfl, by decide +kernel, rfl, by decide +kernel, by decide +kernel⟩
theorem sim__law_equal {f : Addr} {fd : FuncData} (F : FnP K "_law_equal" (top 35) f fd) (hm : mg "_law_equal" = some (.ref f)) (T : Tx tab K mg) (fs__law_is_integer : FS P w K mg base "_law_is_integer" 1 1 F__law_is_integer) : FS P w K mg base "_law_equal" 12 2 F__law_equal := by
  have hb : Binds K fd ["_law_actual", "_law_due"] [] := F.bindsN fun _ _ _ _ _ _ us hl => match us, hl with | [_, _], _ => rfl
  have q : ∀ m, FS P w K mg base "_law_equal" (2 + m) 2 (F__law_equal_r m) := fun m => by
    induction m with
    | zero => exact fs_stuck F hm hb
    | succ m fs__law_equal =>
      refine fs_of (n := 3) (m := M__law_equal (F__law_equal_r m)) F sc__law_equal rfl hm hb fun cdv A outer s H E hr => ?_
      have hr : Room (2 + m) (A.deeper (envOfC _ _ s.heap.objs.size f cdv)) := hr
      have hu := hr.units
      have T_fok : XFs K tab.fok := T.fokE
      exact (ss_cons (st_if (t_cmp o_is (s_var (pv 1)) s_non (nomark _)) (ss_one (st_ret (s_cmp o_is (s_var (pv 0)) s_non (nomark _)))) ss_nil)
  (ss_cons (st_if (t_truth (s_isi rfl (T.mn "isinstance" (by decide)) rfl (T.mn "bool" (by decide)) (by decide +kernel) (s_var (pv 1)))) (ss_one (st_ret (s_and (s_isi rfl (T.mn "isinstance" (by decide)) rfl (T.mn "bool" (by decide)) (by decide +kernel) (s_var (pv 0))) (s_one (s_cmp (o_eq hu) (s_var (pv 0)) (s_var (pv 1)) (nomark _)))))) ss_nil)
  (ss_cons (st_if (t_truth (s_isi rfl (T.mn "isinstance" (by decide)) rfl (T.mn "int" (by decide)) (by decide +kernel) (s_var (pv 1)))) (ss_one (st_ret (s_and (s_call fs__law_is_integer hr (by first | decide | omega) rfl rfl (s_acons (s_var (pv 0)) s_anil) (hml := (la_cons la_nil))) (s_one (s_cmp (o_eq hu) (s_var (pv 0)) (s_var (pv 1)) (nomark _)))))) ss_nil)
  (ss_cons (st_if (t_truth (s_isi rfl (T.mn "isinstance" (by decide)) rfl (T.mn "str" (by decide)) (by decide +kernel) (s_var (pv 1)))) (ss_one (st_ret (s_and (s_isi rfl (T.mn "isinstance" (by decide)) rfl (T.mn "str" (by decide)) (by decide +kernel) (s_var (pv 0))) (s_one (s_cmp (o_eq hu) (s_var (pv 0)) (s_var (pv 1)) (nomark _)))))) ss_nil)
  (ss_cons (st_if (t_of_w (w_and (t_truth (s_isi rfl (T.mn "isinstance" (by decide)) rfl (T.mn "tuple" (by decide)) (by decide +kernel) (s_var (pv 1)))) (w_and1 (t_not (t_truth (s_isi rfl (T.mn "isinstance" (by decide)) rfl (T.mn "tuple" (by decide)) (by decide +kernel) (s_var (pv 0)))))))) (ss_one (st_ret s_bl)) ss_nil)
  (ss_cons (st_if (t_of_w (w_and (t_truth (s_isi rfl (T.mn "isinstance" (by decide)) rfl (T.mn "list" (by decide)) (by decide +kernel) (s_var (pv 1)))) (w_and1 (t_not (t_truth (s_isi rfl (T.mn "isinstance" (by decide)) rfl (T.mn "list" (by decide)) (by decide +kernel) (s_var (pv 0)))))))) (ss_one (st_ret s_bl)) ss_nil)
  (ss_cons (st_if (t_cmp (o_ne hu) (s_callB c_len rfl (T.mn "len" (by decide)) (by decide +kernel) (s_acons (s_var (pv 0)) s_anil)) (s_callB c_len rfl (T.mn "len" (by decide)) (by decide +kernel) (s_acons (s_var (pv 1)) s_anil)) (nomark _)) (ss_one (st_ret s_bl)) ss_nil)
  (ss_one (st_ret (s_callB (c_all rfl) rfl (T.mn "all" (by decide)) (by decide +kernel) (s_acons (s_lc (own := [("_law_at", 2)]) rfl rfl sc__law_equal.nd (si_range1 rfl (T.mn "range" (by decide)) (s_acons (s_callB c_len rfl (T.mn "len" (by decide)) (by decide +kernel) (s_acons (s_var (pv 1)) s_anil)) s_anil)) (blkOk_by (N := ["_law_actual", "_law_due", "_law_at"]) (sc := defScope (top 35)) (own := [("_law_at", 2)]) (by decide +kernel)) (gf_name (fun s H C cl fp => pg_name (i := 2) sc__law_equal.nd rfl (.inl rfl)) (by decide)) tf_nil (fun s H C cl fp => (s_call fs__law_equal hr (by first | decide | omega) rfl rfl (s_acons (s_ix (s_var (pv 0)) (s_var (pv 2))) (s_acons (s_ix (s_var (pv 1)) (s_var (pv 2))) s_anil)) (hml := (la_cons (la_cons la_nil)))))) s_anil)))))))))))
  exact q 10
theorem sc__law_beside : FnScope ["_law_number_here", "_law_n", "_law_d", "_law_here", "_law_side", "_law_left", "_law_right", "_law_c", "_law_b", "_law_a"] ["_law_number_here", "_law_n", "_law_d"] (defScope (top 39)) := ⟨rfl, rfl, rfl, by decide +kernel, rfl, by decide +kernel, by decide +kernel⟩
theorem sim__law_beside {f : Addr} {fd : FuncData} (F : FnP K "_law_beside" (top 39) f fd) (hm : mg "_law_beside" = some (.ref f)) (T : Tx tab K mg) : FS P w K mg base "_law_beside" 1 3 F__law_beside := by
  refine fs_of (n := 10) (m := M__law_beside) F sc__law_beside rfl hm (F.bindsN fun _ _ _ _ _ _ us hl => match us, hl with | [_, _, _], _ => rfl) fun cdv A outer s H E hr => ?_
  have hu := hr.units
  have T_fok : XFs K tab.fok := T.fokE
  exact (ss_cons (st_if (t_cmp (o_eq hu) (s_ix (s_var (pv 0)) s_int) s_str (nomark _)) (ss_cons (st_set (i := 5) sc__law_beside.nd rfl (.inl rfl) (s_bin o_mul (s_ix (s_ix (s_var (pv 0)) s_int) s_int) (s_var (pv 2))))
  (ss_cons (st_set (i := 6) sc__law_beside.nd rfl (.inl rfl) (s_bin o_mul (s_var (pv 1)) (s_ix (s_ix (s_var (pv 0)) s_int) s_int)))
  (ss_one (st_ret (s_bin o_sub (s_callTy c_int rfl (T.mn "int" (by decide)) (by decide +kernel) (s_acons (s_cmp o_gt (s_var (pv 5)) (s_var (pv 6)) (nomark _)) s_anil)) (s_callTy c_int rfl (T.mn "int" (by decide)) (by decide +kernel) (s_acons (s_cmp o_lt (s_var (pv 5)) (s_var (pv 6)) (nomark _)) s_anil))))))) ss_nil)
  (ss_cons (st_asg (s_ix (s_var (pv 0)) s_int) (sg_tup rfl (sgs_cons (sg_name (pg_name (i := 7) sc__law_beside.nd rfl (.inl rfl))) (sgs_cons (sg_name (pg_name (i := 8) sc__law_beside.nd rfl (.inl rfl))) (sgs_cons (sg_name (pg_name (i := 9) sc__law_beside.nd rfl (.inl rfl))) sgs_nil)))))
  (ss_cons (st_set (i := 3) sc__law_beside.nd rfl (.inl rfl) (s_bin o_add (s_bin o_add (s_bin o_mul (s_bin o_mul (s_var (pv 7)) (s_var (pv 2))) (s_var (pv 2))) (s_bin o_mul (s_bin o_mul (s_var (pv 8)) (s_var (pv 1))) (s_var (pv 2)))) (s_bin o_mul (s_bin o_mul (s_var (pv 9)) (s_var (pv 1))) (s_var (pv 1)))))
  (ss_cons (st_set (i := 4) sc__law_beside.nd rfl (.inl rfl) (s_bin o_add (s_bin o_mul (s_bin o_mul s_int (s_var (pv 9))) (s_var (pv 1))) (s_bin o_mul (s_var (pv 8)) (s_var (pv 2)))))
  (ss_cons (st_if (t_cmp (o_eq hu) (s_ix (s_var (pv 0)) s_int) s_int (nomark _)) (ss_one (st_ret (s_if (t_of_w (w_or (t_cmp o_le (s_var (pv 4)) s_int (nomark _)) (w_or1 (t_cmp o_lt (s_var (pv 3)) s_int (nomark _))))) s_int (s_neg s_int)))) ss_nil)
  (ss_one (st_ret (s_if (t_of_w (w_or (t_cmp o_ge (s_var (pv 4)) s_int (nomark _)) (w_or1 (t_cmp o_lt (s_var (pv 3)) s_int (nomark _))))) (s_neg s_int) s_int))))))))
theorem sc__law_floor : FnScope ["_law_number_here", "_law_q", "_law_low_here", "_law_high", "_law_k", "_law_middle"] ["_law_number_here", "_law_q", "_law_low_here", "_law_high"] (defScope (top 40)) := ⟨rfl, rfl, rfl, by decide +kernel, rfl, by decide +kernel, by decide +kernel⟩
theorem sim__law_floor {f : Addr} {fd : FuncData} (F : FnP K "_law_floor" (top 40) f fd) (hm : mg "_law_floor" = some (.ref f)) (T : Tx tab K mg) (fs__law_beside : FS P w K mg base "_law_beside" 1 3 F__law_beside) : FS P w K mg base "_law_floor" 2 4 F__law_floor := by
  refine fs_of (n := 6) (m := M__law_floor) F sc__law_floor rfl hm (F.bindsN fun _ _ _ _ _ _ us hl => match us, hl with | [_, _, _, _], _ => rfl) fun cdv A outer s H E hr => ?_
  have hu := hr.units
  have T_fok : XFs K tab.fok := T.fokE
  exact (ss_cons (st_for (passes_of rfl) rfl (si_range1 rfl (T.mn "range" (by decide)) (s_acons s_int s_anil)) (sg_name (pg_name (i := 4) sc__law_floor.nd rfl (.inl rfl))) (ss_cons (st_if (t_cmp o_lt (s_bin o_sub (s_var (pv 3)) (s_var (pv 2))) s_int (nomark _)) (ss_one st_break) ss_nil)
  (ss_cons (st_set (i := 5) sc__law_floor.nd rfl (.inl rfl) (s_bin o_fdiv (s_bin o_add (s_var (pv 2)) (s_var (pv 3))) s_int))
  (ss_one (st_if (t_cmp o_ge (s_call fs__law_beside hr (by first | decide | omega) rfl rfl (s_acons (s_var (pv 0)) (s_acons (s_var (pv 5)) (s_acons (s_var (pv 1)) s_anil))) (hml := (la_cons (la_cons (la_cons la_nil))))) s_int (nomark _)) (ss_one (st_set (i := 2) sc__law_floor.nd rfl (.inl rfl) (s_var (pv 5)))) (ss_one (st_set (i := 3) sc__law_floor.nd rfl (.inl rfl) (s_var (pv 5)))))))))
  (ss_one (st_ret (s_var (pv 2)))))
theorem sc__law_compare : FnScope ["_law_first", "_law_second", "_law_one", "_law_other", "_law_q", "_law_k"] ["_law_first", "_law_second"] (defScope (top 41)) := ⟨rfl, rfl, rfl, by decide +kernel, rfl, by decide +kernel, by decide +kernel⟩
theorem sim__law_compare {f : Addr} {fd : FuncData} (F : FnP K "_law_compare" (top 41) f fd) (hm : mg "_law_compare" = some (.ref f)) (T : Tx tab K mg) (fs__law_floor : FS P w K mg base "_law_floor" 2 4 F__law_floor) : FS P w K mg base "_law_compare" 3 2 F__law_compare := by
  refine fs_of (n := 6) (m := M__law_compare) F sc__law_compare rfl hm (F.bindsN fun _ _ _ _ _ _ us hl => match us, hl with | [_, _], _ => rfl) fun cdv A outer s H E hr => ?_
  have hu := hr.units
  have T_fok : XFs K tab.fok := T.fokE
  exact (ss_cons (st_if (t_cmp (o_eq hu) (s_var (pv 0)) (s_var (pv 1)) (nomark _)) (ss_one (st_ret s_int)) ss_nil)
  (ss_cons (st_set (i := 2) sc__law_compare.nd rfl (.inl rfl) (s_call fs__law_floor hr (by first | decide | omega) rfl rfl (s_acons (s_var (pv 0)) (s_acons s_int (s_acons (s_neg s_int) (s_acons s_int s_anil)))) (hml := (la_cons (la_cons (la_cons (la_cons la_nil)))))))
  (ss_cons (st_set (i := 3) sc__law_compare.nd rfl (.inl rfl) (s_call fs__law_floor hr (by first | decide | omega) rfl rfl (s_acons (s_var (pv 1)) (s_acons s_int (s_acons (s_neg s_int) (s_acons s_int s_anil)))) (hml := (la_cons (la_cons (la_cons (la_cons la_nil)))))))
  (ss_cons (st_set (i := 4) sc__law_compare.nd rfl (.inl rfl) s_int)
  (ss_cons (st_for (passes_of rfl) rfl (si_range1 rfl (T.mn "range" (by decide)) (s_acons s_int s_anil)) (sg_name (pg_name (i := 5) sc__law_compare.nd rfl (.inl rfl))) (ss_cons (st_if (t_cmp (o_ne hu) (s_var (pv 2)) (s_var (pv 3)) (nomark _)) (ss_one st_break) ss_nil)
  (ss_cons (st_set (i := 4) sc__law_compare.nd rfl (.inl rfl) (s_bin o_mul (s_var (pv 4)) s_int))
  (ss_cons (st_set (i := 2) sc__law_compare.nd rfl (.inl rfl) (s_call fs__law_floor hr (by first | decide | omega) rfl rfl (s_acons (s_var (pv 0)) (s_acons (s_var (pv 4)) (s_acons (s_bin o_mul s_int (s_var (pv 2))) (s_acons (s_bin o_add (s_bin o_mul s_int (s_var (pv 2))) s_int) s_anil)))) (hml := (la_cons (la_cons (la_cons (la_cons la_nil)))))))
  (ss_one (st_set (i := 3) sc__law_compare.nd rfl (.inl rfl) (s_call fs__law_floor hr (by first | decide | omega) rfl rfl (s_acons (s_var (pv 1)) (s_acons (s_var (pv 4)) (s_acons (s_bin o_mul s_int (s_var (pv 3))) (s_acons (s_bin o_add (s_bin o_mul s_int (s_var (pv 3))) s_int) s_anil)))) (hml := (la_cons (la_cons (la_cons (la_cons la_nil))))))))))))
  (ss_one (st_ret (s_bin o_sub (s_callTy c_int rfl (T.mn "int" (by decide)) (by decide +kernel) (s_acons (s_cmp o_gt (s_var (pv 2)) (s_var (pv 3)) (nomark _)) s_anil)) (s_callTy c_int rfl (T.mn "int" (by decide)) (by decide +kernel) (s_acons (s_cmp o_lt (s_var (pv 2)) (s_var (pv 3)) (nomark _)) s_anil))))))))))
theorem sc__law_gcd : FnScope ["_law_a", "_law_b", "_law_k"] ["_law_a", "_law_b"] (defScope (top 29)) := ⟨rfl, rfl, rfl, by decide +kernel, rfl, by decide +kernel, by decide +kernel⟩
theorem sim__law_gcd {f : Addr} {fd : FuncData} (F : FnP K "_law_gcd" (top 29) f fd) (hm : mg "_law_gcd" = some (.ref f)) (T : Tx tab K mg) : FS P w K mg base "_law_gcd" 1 2 F__law_gcd := by
  refine fs_of (n := 3) (m := M__law_gcd) F sc__law_gcd rfl hm (F.bindsN fun _ _ _ _ _ _ us hl => match us, hl with | [_, _], _ => rfl) fun cdv A outer s H E hr => ?_
  have hu := hr.units
  have T_fok : XFs K tab.fok := T.fokE
  exact (ss_cons (st_set (i := 0) sc__law_gcd.nd rfl (.inl rfl) (s_callB c_abs rfl (T.mn "abs" (by decide)) (by decide +kernel) (s_acons (s_var (pv 0)) s_anil)))
  (ss_cons (st_set (i := 1) sc__law_gcd.nd rfl (.inl rfl) (s_callB c_abs rfl (T.mn "abs" (by decide)) (by decide +kernel) (s_acons (s_var (pv 1)) s_anil)))
  (ss_cons (st_for (passes_of rfl) rfl (si_range1 rfl (T.mn "range" (by decide)) (s_acons s_int s_anil)) (sg_name (pg_name (i := 2) sc__law_gcd.nd rfl (.inl rfl))) (ss_cons (st_if (t_cmp (o_eq hu) (s_var (pv 1)) s_int (nomark _)) (ss_one st_break) ss_nil)
  (ss_one (st_par (i := 0) (j := 1) rfl sc__law_gcd.nd rfl rfl (by decide) rfl rfl (s_acons (s_var (pv 1)) (s_acons (s_bin o_mod (s_callTy c_int rfl (T.mn "int" (by decide)) (by decide +kernel) (s_acons (s_var (pv 0)) s_anil)) (s_var (pv 1))) s_anil)) rfl))))
  (ss_one (st_ret (s_var (pv 0)))))))
theorem sc__law_low : FnScope ["_law_n", "_law_d", "_law_shared"] ["_law_n", "_law_d"] (defScope (top 30)) := ⟨rfl, rfl, rfl, by decide +kernel, rfl, by decide +kernel, by decide +kernel⟩
theorem sim__law_low {f : Addr} {fd : FuncData} (F : FnP K "_law_low" (top 30) f fd) (hm : mg "_law_low" = some (.ref f)) (T : Tx tab K mg) (fs__law_gcd : FS P w K mg base "_law_gcd" 1 2 F__law_gcd) : FS P w K mg base "_law_low" 2 2 F__law_low := by
  refine fs_of (n := 3) (m := M__law_low) F sc__law_low rfl hm (F.bindsN fun _ _ _ _ _ _ us hl => match us, hl with | [_, _], _ => rfl) fun cdv A outer s H E hr => ?_
  have hu := hr.units
  have T_fok : XFs K tab.fok := T.fokE
  exact (ss_cons (st_set (i := 2) sc__law_low.nd rfl (.inl rfl) (s_call fs__law_gcd hr (by first | decide | omega) rfl rfl (s_acons (s_var (pv 0)) (s_acons (s_var (pv 1)) s_anil)) (hml := (la_cons (la_cons la_nil)))))
  (ss_cons (st_if (t_cmp o_lt (s_var (pv 1)) s_int (nomark _)) (ss_one (st_set (i := 2) sc__law_low.nd rfl (.inl rfl) (s_bin o_sub s_int (s_var (pv 2))))) ss_nil)
  (ss_one (st_ret (s_tup (s_acons (s_bin o_fdiv (s_var (pv 0)) (s_var (pv 2))) (s_acons (s_bin o_fdiv (s_var (pv 1)) (s_var (pv 2))) s_anil)))))))
theorem sc__law_near : FnScope ["_law_stream_here", "_law_number_here", "_law_pick", "_law_q", "_law_m"] ["_law_stream_here", "_law_number_here"] (defScope (top 43)) := ⟨rfl, rfl, rfl, by decide +kernel, rfl, by decide +kernel, by decide +kernel⟩
theorem sim__law_near {f : Addr} {fd : FuncData} (F : FnP K "_law_near" (top 43) f fd) (hm : mg "_law_near" = some (.ref f)) (T : Tx tab K mg) (fs__law_low : FS P w K mg base "_law_low" 2 2 F__law_low) (fs__law_floor : FS P w K mg base "_law_floor" 2 4 F__law_floor) (fs__law_next : FS P w K mg base "_law_next" 1 2 F__law_next) : FS P w K mg base "_law_near" 3 2 F__law_near := by
  refine fs_of (n := 5) (m := M__law_near) F sc__law_near rfl hm (F.bindsN fun _ _ _ _ _ _ us hl => match us, hl with | [_, _], _ => rfl) fun cdv A outer s H E hr => ?_
  have hu := hr.units
  have T_fok : XFs K tab.fok := T.fokE
  exact (ss_cons (st_set (i := 2) sc__law_near.nd rfl (.inl rfl) (s_call fs__law_next hr (by first | decide | omega) rfl rfl (s_acons (s_var (pv 0)) (s_acons s_int s_anil)) (hml := (la_cons (la_cons la_nil)))))
  (ss_cons (st_if (t_cmp (o_eq hu) (s_var (pv 2)) s_int (nomark _)) (ss_one (st_ret (s_var (pv 1)))) ss_nil)
  (ss_cons (st_if (t_of_w (w_and (t_cmp (o_eq hu) (s_var (pv 2)) s_int (nomark _)) (w_and1 (t_cmp (o_eq hu) (s_ix (s_var (pv 1)) s_int) s_str (nomark _))))) (ss_one (st_ret (s_tup (s_acons s_str (s_acons (s_ix (s_var (pv 1)) s_int) (s_acons (s_bin o_sub s_int (s_ix (s_var (pv 1)) s_int)) s_anil)))))) ss_nil)
  (ss_cons (st_set (i := 3) sc__law_near.nd rfl (.inl rfl) (s_bin o_add s_int (s_call fs__law_next hr (by first | decide | omega) rfl rfl (s_acons (s_var (pv 0)) (s_acons s_int s_anil)) (hml := (la_cons (la_cons la_nil))))))
  (ss_cons (st_set (i := 4) sc__law_near.nd rfl (.inl rfl) (s_bin o_add (s_call fs__law_floor hr (by first | decide | omega) rfl rfl (s_acons (s_var (pv 1)) (s_acons (s_var (pv 3)) (s_acons (s_bin o_mul (s_neg s_int) (s_var (pv 3))) (s_acons (s_bin o_mul s_int (s_var (pv 3))) s_anil)))) (hml := (la_cons (la_cons (la_cons (la_cons la_nil)))))) (s_call fs__law_next hr (by first | decide | omega) rfl rfl (s_acons (s_var (pv 0)) (s_acons s_int s_anil)) (hml := (la_cons (la_cons la_nil))))))
  (ss_one (st_ret (s_tup (s_acons s_str (s_acons (s_call fs__law_low hr (by first | decide | omega) rfl rfl (s_acons (s_var (pv 4)) (s_acons (s_var (pv 3)) s_anil)) (hml := (la_cons (la_cons la_nil)))) s_anil))))))))))
theorem sc__law_root : FnScope ["_law_n", "_law_low_here", "_law_high", "_law_k", "_law_middle"] ["_law_n"] (defScope (top 36)) := ⟨rfl, rfl, rfl, by decide +kernel, rfl, by decide +kernel, by decide +kernel⟩
theorem sim__law_root {f : Addr} {fd : FuncData} (F : FnP K "_law_root" (top 36) f fd) (hm : mg "_law_root" = some (.ref f)) (T : Tx tab K mg) : FS P w K mg base "_law_root" 1 1 F__law_root := by
  refine fs_of (n := 5) (m := M__law_root) F sc__law_root rfl hm (F.bindsN fun _ _ _ _ _ _ us hl => match us, hl with | [_], _ => rfl) fun cdv A outer s H E hr => ?_
  have hu := hr.units
  have T_fok : XFs K tab.fok := T.fokE
  exact (ss_cons (st_set (i := 1) sc__law_root.nd rfl (.inl rfl) s_int)
  (ss_cons (st_set (i := 2) sc__law_root.nd rfl (.inl rfl) s_int)
  (ss_cons (st_for (passes_of rfl) rfl (si_range1 rfl (T.mn "range" (by decide)) (s_acons s_int s_anil)) (sg_name (pg_name (i := 3) sc__law_root.nd rfl (.inl rfl))) (ss_cons (st_if (t_cmp o_gt (s_bin o_mul (s_var (pv 2)) (s_var (pv 2))) (s_var (pv 0)) (nomark _)) (ss_one st_break) ss_nil)
  (ss_one (st_set (i := 2) sc__law_root.nd rfl (.inl rfl) (s_bin o_mul (s_var (pv 2)) s_int)))))
  (ss_cons (st_for (passes_of rfl) rfl (si_range1 rfl (T.mn "range" (by decide)) (s_acons s_int s_anil)) (sg_name (pg_name (i := 3) sc__law_root.nd rfl (.inl rfl))) (ss_cons (st_if (t_cmp o_lt (s_bin o_sub (s_var (pv 2)) (s_var (pv 1))) s_int (nomark _)) (ss_one st_break) ss_nil)
  (ss_cons (st_set (i := 4) sc__law_root.nd rfl (.inl rfl) (s_bin o_fdiv (s_bin o_add (s_var (pv 1)) (s_var (pv 2))) s_int))
  (ss_one (st_if (t_cmp o_gt (s_bin o_mul (s_var (pv 4)) (s_var (pv 4))) (s_var (pv 0)) (nomark _)) (ss_one (st_set (i := 2) sc__law_root.nd rfl (.inl rfl) (s_var (pv 4)))) (ss_one (st_set (i := 1) sc__law_root.nd rfl (.inl rfl) (s_var (pv 4)))))))))
  (ss_one (st_ret (s_var (pv 1))))))))
theorem sc__law_is_square : FnScope ["_law_n"] ["_law_n"] (defScope (top 37)) := ⟨rfl, rfl, rfl, by decide +kernel, rfl, by decide +kernel, by decide +kernel⟩
theorem sim__law_is_square {f : Addr} {fd : FuncData} (F : FnP K "_law_is_square" (top 37) f fd) (hm : mg "_law_is_square" = some (.ref f)) (T : Tx tab K mg) (fs__law_root : FS P w K mg base "_law_root" 1 1 F__law_root) : FS P w K mg base "_law_is_square" 2 1 F__law_is_square := by
  refine fs_of (n := 1) (m := M__law_is_square) F sc__law_is_square rfl hm (F.bindsN fun _ _ _ _ _ _ us hl => match us, hl with | [_], _ => rfl) fun cdv A outer s H E hr => ?_
  have hu := hr.units
  have T_fok : XFs K tab.fok := T.fokE
  exact (ss_one (st_ret (s_cmp (o_eq hu) (s_bin o_mul (s_call fs__law_root hr (by first | decide | omega) rfl rfl (s_acons (s_var (pv 0)) s_anil) (hml := (la_cons la_nil))) (s_call fs__law_root hr (by first | decide | omega) rfl rfl (s_acons (s_var (pv 0)) s_anil) (hml := (la_cons la_nil)))) (s_var (pv 0)) (nomark _))))
theorem sc__law_ratio : FnScope ["_law_stream_here", "_law_top", "_law_most", "_law_n"] ["_law_stream_here", "_law_top", "_law_most"] (defScope (top 34)) := ⟨rfl, rfl, rfl, by decide +kernel, rfl, by decide +kernel, by decide +kernel⟩
theorem sim__law_ratio {f : Addr} {fd : FuncData} (F : FnP K "_law_ratio" (top 34) f fd) (hm : mg "_law_ratio" = some (.ref f)) (T : Tx tab K mg) (fs__law_low : FS P w K mg base "_law_low" 2 2 F__law_low) (fs__law_next : FS P w K mg base "_law_next" 1 2 F__law_next) : FS P w K mg base "_law_ratio" 3 3 F__law_ratio := by
  refine fs_of (n := 4) (m := M__law_ratio) F sc__law_ratio rfl hm (F.bindsN fun _ _ _ _ _ _ us hl => match us, hl with | [_, _, _], _ => rfl) fun cdv A outer s H E hr => ?_
  have hu := hr.units
  have T_fok : XFs K tab.fok := T.fokE
  exact (ss_cons (st_set (i := 3) sc__law_ratio.nd rfl (.inl rfl) (s_bin o_sub (s_call fs__law_next hr (by first | decide | omega) rfl rfl (s_acons (s_var (pv 0)) (s_acons (s_bin o_add (s_bin o_mul s_int (s_var (pv 1))) s_int) s_anil)) (hml := (la_cons (la_cons la_nil)))) (s_var (pv 1))))
  (ss_one (st_ret (s_call fs__law_low hr (by first | decide | omega) rfl rfl (s_acons (s_var (pv 3)) (s_acons (s_bin o_add s_int (s_call fs__law_next hr (by first | decide | omega) rfl rfl (s_acons (s_var (pv 0)) (s_acons (s_var (pv 2)) s_anil)) (hml := (la_cons (la_cons la_nil))))) s_anil)) (hml := (la_cons (la_cons la_nil)))))))
theorem sc__law_number : FnScope ["_law_stream_here", "_law_a", "_law_b", "_law_c", "_law_shared", "_law_inside"] ["_law_stream_here"] (defScope (top 38)) := ⟨rfl, rfl, rfl, by decide +kernel, rfl, by decide +kernel, by decide +kernel⟩
theorem sim__law_number {f : Addr} {fd : FuncData} (F : FnP K "_law_number" (top 38) f fd) (hm : mg "_law_number" = some (.ref f)) (T : Tx tab K mg) (fs__law_next : FS P w K mg base "_law_next" 1 2 F__law_next) (fs__law_is_square : FS P w K mg base "_law_is_square" 2 1 F__law_is_square) (fs__law_gcd : FS P w K mg base "_law_gcd" 1 2 F__law_gcd) (fs__law_ratio : FS P w K mg base "_law_ratio" 3 3 F__law_ratio) : FS P w K mg base "_law_number" 4 1 F__law_number := by
  refine fs_of (n := 6) (m := M__law_number) F sc__law_number rfl hm (F.bindsN fun _ _ _ _ _ _ us hl => match us, hl with | [_], _ => rfl) fun cdv A outer s H E hr => ?_
  have hu := hr.units
  have T_fok : XFs K tab.fok := T.fokE
  exact (ss_cons (st_if (t_cmp (o_eq hu) (s_call fs__law_next hr (by first | decide | omega) rfl rfl (s_acons (s_var (pv 0)) (s_acons s_int s_anil)) (hml := (la_cons (la_cons la_nil)))) s_int (nomark _)) (ss_one (st_ret (s_tup (s_acons s_str (s_acons (s_call fs__law_ratio hr (by first | decide | omega) rfl rfl (s_acons (s_var (pv 0)) (s_acons s_int (s_acons s_int s_anil))) (hml := (la_cons (la_cons (la_cons la_nil))))) s_anil))))) ss_nil)
  (ss_cons (st_set (i := 1) sc__law_number.nd rfl (.inl rfl) (s_bin o_add s_int (s_call fs__law_next hr (by first | decide | omega) rfl rfl (s_acons (s_var (pv 0)) (s_acons s_int s_anil)) (hml := (la_cons (la_cons la_nil))))))
  (ss_cons (st_set (i := 2) sc__law_number.nd rfl (.inl rfl) (s_bin o_sub (s_call fs__law_next hr (by first | decide | omega) rfl rfl (s_acons (s_var (pv 0)) (s_acons s_int s_anil)) (hml := (la_cons (la_cons la_nil)))) s_int))
  (ss_cons (st_set (i := 3) sc__law_number.nd rfl (.inl rfl) (s_bin o_sub (s_call fs__law_next hr (by first | decide | omega) rfl rfl (s_acons (s_var (pv 0)) (s_acons s_int s_anil)) (hml := (la_cons (la_cons la_nil)))) s_int))
  (ss_cons (st_set (i := 4) sc__law_number.nd rfl (.inl rfl) (s_call fs__law_gcd hr (by first | decide | omega) rfl rfl (s_acons (s_call fs__law_gcd hr (by first | decide | omega) rfl rfl (s_acons (s_var (pv 1)) (s_acons (s_var (pv 2)) s_anil)) (hml := (la_cons (la_cons la_nil)))) (s_acons (s_var (pv 3)) s_anil)) (hml := (la_cons (la_cons la_nil)))))
  (ss_cons (st_par3 (i := 1) (j := 2) (l := 3) rfl sc__law_number.nd rfl rfl rfl (by decide) (by decide) (by decide) rfl rfl rfl (s_acons (s_bin o_fdiv (s_var (pv 1)) (s_var (pv 4))) (s_acons (s_bin o_fdiv (s_var (pv 2)) (s_var (pv 4))) (s_acons (s_bin o_fdiv (s_var (pv 3)) (s_var (pv 4))) s_anil))) rfl)
  (ss_cons (st_set (i := 5) sc__law_number.nd rfl (.inl rfl) (s_bin o_sub (s_bin o_mul (s_var (pv 2)) (s_var (pv 2))) (s_bin o_mul (s_bin o_mul s_int (s_var (pv 1))) (s_var (pv 3)))))
  (ss_cons (st_if (t_of_w (w_or (t_cmp o_le (s_var (pv 5)) s_int (nomark _)) (w_or1 (t_truth (s_call fs__law_is_square hr (by first | decide | omega) rfl rfl (s_acons (s_var (pv 5)) s_anil) (hml := (la_cons la_nil))))))) (ss_one (st_ret (s_tup (s_acons s_str (s_acons (s_tup (s_acons (s_bin o_sub s_int s_int) (s_acons s_int (s_acons s_int s_anil)))) (s_acons (s_call fs__law_next hr (by first | decide | omega) rfl rfl (s_acons (s_var (pv 0)) (s_acons s_int s_anil)) (hml := (la_cons (la_cons la_nil)))) s_anil)))))) ss_nil)
  (ss_one (st_ret (s_tup (s_acons s_str (s_acons (s_tup (s_acons (s_var (pv 3)) (s_acons (s_var (pv 2)) (s_acons (s_var (pv 1)) s_anil)))) (s_acons (s_call fs__law_next hr (by first | decide | omega) rfl rfl (s_acons (s_var (pv 0)) (s_acons s_int s_anil)) (hml := (la_cons (la_cons la_nil)))) s_anil))))))))))))))
theorem sc__law_stream : FnScope ["_law_script"] ["_law_script"] (defScope (top 26)) := ⟨rfl, rfl, rfl, by decide +kernel, rfl, by decide +kernel, by decide +kernel⟩
theorem sim__law_stream {f : Addr} {fd : FuncData} (F : FnP K "_law_stream" (top 26) f fd) (hm : mg "_law_stream" = some (.ref f)) (T : Tx tab K mg) : FS P w K mg base "_law_stream" 1 1 F__law_stream := by
  refine fs_of (n := 1) (m := M__law_stream) F sc__law_stream rfl hm (F.bindsN fun _ _ _ _ _ _ us hl => match us, hl with | [_], _ => rfl) fun cdv A outer s H E hr => ?_
  have hu := hr.units
  have T_fok : XFs K tab.fok := T.fokE
  exact (ss_one (st_ret (s_lst (s_acons (s_callTy c_list rfl (T.mn "list" (by decide)) (by decide +kernel) (s_acons (s_var (pv 0)) s_anil)) (s_acons s_int (s_acons s_int s_anil))))))
theorem sc_law : FnScope ["_law_script", "_law_stream_here", "_law_first", "_law_second", "_law_due", "_law_wrong"] ["_law_script"] (defScope (top 44)) := ⟨rfl, rfl, rfl, by decide +kernel, rfl, by decide +kernel, by decide +kernel⟩
theorem sim_law {f : Addr} {fd : FuncData} (F : FnP K "law" (top 44) f fd) (hm : mg "law" = some (.ref f)) (T : Tx tab K mg) (fs__law_told : FS P w K mg base "_law_told" 6 2 F__law_told) (fs__law_next : FS P w K mg base "_law_next" 1 2 F__law_next) (fs__law_equal : FS P w K mg base "_law_equal" 12 2 F__law_equal) (fs__law_compare : FS P w K mg base "_law_compare" 3 2 F__law_compare) (fs__law_near : FS P w K mg base "_law_near" 3 2 F__law_near) (fs__law_number : FS P w K mg base "_law_number" 4 1 F__law_number) (fs__law_stream : FS P w K mg base "_law_stream" 1 1 F__law_stream) : FnOk P w K mg base (L2.CX P w) 13 f fd ["_law_script"] (spF K mg 1 F_law) := by
  refine fn_sim (n := 6) (m := M_law) F sc_law rfl fun cdv A outer s H E hr => ?_
  have hu := hr.units
  have T_fok : XFs K tab.fok := T.fokE
  exact (ss_cons (st_set (i := 1) sc_law.nd rfl (.inl rfl) (s_call fs__law_stream hr (by first | decide | omega) rfl rfl (s_acons (s_var (pv 0)) s_anil) (hml := (la_cons la_nil))))
  (ss_cons (st_set (i := 2) sc_law.nd rfl (.inl rfl) (s_call fs__law_number hr (by first | decide | omega) rfl rfl (s_acons (s_var (pv 1)) s_anil) (hml := (la_cons la_nil))))
  (ss_cons (st_set (i := 3) sc_law.nd rfl (.inl rfl) (s_call fs__law_number hr (by first | decide | omega) rfl rfl (s_acons (s_var (pv 1)) s_anil) (hml := (la_cons la_nil))))
  (ss_cons (st_if (t_cmp (o_eq hu) (s_call fs__law_next hr (by first | decide | omega) rfl rfl (s_acons (s_var (pv 1)) (s_acons s_int s_anil)) (hml := (la_cons (la_cons la_nil)))) s_int (nomark _)) (ss_one (st_set (i := 3) sc_law.nd rfl (.inl rfl) (s_call fs__law_near hr (by first | decide | omega) rfl rfl (s_acons (s_var (pv 1)) (s_acons (s_var (pv 2)) s_anil)) (hml := (la_cons (la_cons la_nil)))))) ss_nil)
  (ss_cons (st_set (i := 4) sc_law.nd rfl (.inl rfl) (s_call fs__law_compare hr (by first | decide | omega) rfl rfl (s_acons (s_var (pv 2)) (s_acons (s_var (pv 3)) s_anil)) (hml := (la_cons (la_cons la_nil)))))
  (ss_cons (st_if (t_not (t_truth (s_call fs__law_equal hr (by first | decide | omega) rfl rfl (s_acons (s_lst (s_acons (s_call fs__law_told hr (by first | decide | omega) rfl rfl (s_acons (s_var (pv 2)) (s_acons (s_var (pv 3)) s_anil)) (hml := (la_cons (la_cons la_nil)))) (s_acons (s_call fs__law_told hr (by first | decide | omega) rfl rfl (s_acons (s_var (pv 3)) (s_acons (s_var (pv 2)) s_anil)) (hml := (la_cons (la_cons la_nil)))) s_anil))) (s_acons (s_lst (s_acons (s_var (pv 4)) (s_acons (s_bin o_sub s_int (s_var (pv 4))) s_anil))) s_anil)) (hml := (la_cons (la_cons la_nil)))))) (ss_one (st_ret s_bl)) ss_nil)
  (ss_cons (st_set (i := 5) sc_law.nd rfl (.inl rfl) (s_ix (s_lst (s_acons (s_callTy c_list rfl (T.mn "list" (by decide)) (by decide +kernel) (s_acons (s_var (pv 2)) s_anil)) (s_acons s_non (s_acons (s_tup (s_acons s_str (s_acons (s_tup (s_acons s_int (s_acons s_int s_anil))) s_anil))) (s_acons s_int s_anil))))) (s_call fs__law_next hr (by first | decide | omega) rfl rfl (s_acons (s_var (pv 1)) (s_acons s_int s_anil)) (hml := (la_cons (la_cons la_nil))))))
  (ss_one (st_ret (s_and (s_cmp (o_eq hu) (s_call fs__law_told hr (by first | decide | omega) rfl rfl (s_acons (s_var (pv 5)) (s_acons (s_var (pv 5)) s_anil)) (hml := (la_cons (la_cons la_nil)))) s_str (nomark _)) (s_one (s_cmp (o_eq hu) (s_call fs__law_told hr (by first | decide | omega) rfl rfl (s_acons (s_var (pv 2)) (s_acons (s_var (pv 5)) s_anil)) (hml := (la_cons (la_cons la_nil)))) s_str (nomark _)))))))))))))
end
end Zl
/-! Z25: what the module's names reach, each once (a mask of those seen): cheaper for the kernel. -/
namespace Z
open PySem PySem.Spec PyProof.Rows L2 HandSHeadRun
def seenB (m a : Nat) : Bool := Nat.beq (Nat.land (Nat.shiftRight m a) 1) 1
def setB (m a : Nat) : Nat := Nat.lor m (Nat.shiftLeft 1 a)
/-- those of a level that are new; what they name -/
def pass {α : Type} (g : Addr → Option Obj) : List Addr → Nat → List Addr → List Addr → (List Addr → List Addr → Nat → α) → α
  | [], m, acc, nx, k => k acc nx m
  | a :: fr, m, acc, nx, k => match seenB m a with
    | true => pass g fr m acc nx k
    | false => frNat (setB m a) fun m => match g a with
      | some o => pass g fr m (a :: acc) (He.refsD o ++ nx) k
      | none => pass g fr m acc nx k
def asZ (g : Addr → Option Obj) : Nat → List Addr → Nat → List Addr → List Addr
  | 0, _, _, acc => acc
  | d + 1, fr, m, acc => pass g fr m acc [] fun acc nx m => asZ g d nx m acc
def obsY (n : Nat) (t : Tab) (fn : List He.DefD) (g : Addr → Option Obj) : He.AlT := obsZ t fn (He.frG g (asZ g n [mainGlobals] 0 []))
def hookY (n : Nat) (t : Tab) (fn : List He.DefD) : PySem.W.Hook where
  α := He.AlT
  obs := fun s => obsY n t fn s.heap.get?
  val := fun w => valZ t fn w
  says := fun w h => ∃ K : PySem.W.Frag, K.In h ∧ SaysZ t fn w K
  of := fun _ _ e => ⟨_, He.frG_in, e⟩
  keeps := fun _ _ _ ⟨K, hK, c⟩ k => ⟨K, PySem.W.Frag.In.keeps hK k, c⟩
theorem obsY_eq {n : Nat} {t : Tab} {fn : List He.DefD} {g : Addr → Option Obj} {s : Shared} (h : ∀ a, g a = s.heap.get? a) : obsY n t fn g = (hookY n t fn).obs s := by
  have e : g = s.heap.get? := funext h
  rw [e] <;> rfl
end Z
namespace Zl
open PySem PySem.Spec PyProof.Rows L2 Z Zc
def fns : List He.DefD := [⟨("sign", none), "sign", "sign", defArgs (top 13), defBody (top 13), defScope (top 13), [], []⟩,
  ⟨("reduced", none), "reduced", "reduced", defArgs (top 8), defBody (top 8), defScope (top 8), [], []⟩,
  ⟨("minus", none), "minus", "minus", defArgs (top 11), defBody (top 11), defScope (top 11), [], []⟩,
  ⟨("times", none), "times", "times", defArgs (top 12), defBody (top 12), defScope (top 12), [], []⟩,
  ⟨("square_sign", none), "square_sign", "square_sign", defArgs (top 21), defBody (top 21), defScope (top 21), [], []⟩,
  ⟨("plus", none), "plus", "plus", defArgs (top 10), defBody (top 10), defScope (top 10), [], []⟩,
  ⟨("two_roots_sign", none), "two_roots_sign", "two_roots_sign", defArgs (top 22), defBody (top 22), defScope (top 22), [], []⟩,
  ⟨("total_sign", none), "total_sign", "total_sign", defArgs (top 23), defBody (top 23), defScope (top 23), [], []⟩,
  ⟨("ratio", none), "ratio", "ratio", defArgs (top 9), defBody (top 9), defScope (top 9), [], []⟩,
  ⟨("parts_of", none), "parts_of", "parts_of", defArgs (top 20), defBody (top 20), defScope (top 20), [], []⟩,
  ⟨("is_square", none), "is_square", "is_square", defArgs (top 15), defBody (top 15), defScope (top 15), [], []⟩,
  ⟨("is_integer", none), "is_integer", "is_integer", defArgs (top 6), defBody (top 6), defScope (top 6), [], []⟩,
  ⟨("is_root", none), "is_root", "is_root", defArgs (top 17), defBody (top 17), defScope (top 17), [], []⟩,
  ⟨("is_rational", none), "is_rational", "is_rational", defArgs (top 7), defBody (top 7), defScope (top 7), [], []⟩,
  ⟨("is_number", none), "is_number", "is_number", defArgs (top 18), defBody (top 18), defScope (top 18), [], []⟩,
  ⟨("check_number", none), "check_number", "check_number", defArgs (top 19), defBody (top 19), defScope (top 19), [], []⟩,
  ⟨("compare_numbers", none), "compare_numbers", "compare_numbers", defArgs (top 24), defBody (top 24), defScope (top 24), [], []⟩,
  ⟨("_law_told", none), "_law_told", "_law_told", defArgs (top 42), defBody (top 42), defScope (top 42), [], []⟩,
  ⟨("_law_next", none), "_law_next", "_law_next", defArgs (top 27), defBody (top 27), defScope (top 27), [], []⟩,
  ⟨("_law_is_integer", none), "_law_is_integer", "_law_is_integer", defArgs (top 28), defBody (top 28), defScope (top 28), [], []⟩,
  ⟨("_law_equal", none), "_law_equal", "_law_equal", defArgs (top 35), defBody (top 35), defScope (top 35), [], []⟩,
  ⟨("_law_beside", none), "_law_beside", "_law_beside", defArgs (top 39), defBody (top 39), defScope (top 39), [], []⟩,
  ⟨("_law_floor", none), "_law_floor", "_law_floor", defArgs (top 40), defBody (top 40), defScope (top 40), [], []⟩,
  ⟨("_law_compare", none), "_law_compare", "_law_compare", defArgs (top 41), defBody (top 41), defScope (top 41), [], []⟩,
  ⟨("_law_gcd", none), "_law_gcd", "_law_gcd", defArgs (top 29), defBody (top 29), defScope (top 29), [], []⟩,
  ⟨("_law_low", none), "_law_low", "_law_low", defArgs (top 30), defBody (top 30), defScope (top 30), [], []⟩,
  ⟨("_law_near", none), "_law_near", "_law_near", defArgs (top 43), defBody (top 43), defScope (top 43), [], []⟩,
  ⟨("_law_root", none), "_law_root", "_law_root", defArgs (top 36), defBody (top 36), defScope (top 36), [], []⟩,
  ⟨("_law_is_square", none), "_law_is_square", "_law_is_square", defArgs (top 37), defBody (top 37), defScope (top 37), [], []⟩,
  ⟨("_law_ratio", none), "_law_ratio", "_law_ratio", defArgs (top 34), defBody (top 34), defScope (top 34), [], []⟩,
  ⟨("_law_number", none), "_law_number", "_law_number", defArgs (top 38), defBody (top 38), defScope (top 38), [], []⟩,
  ⟨("_law_stream", none), "_law_stream", "_law_stream", defArgs (top 26), defBody (top 26), defScope (top 26), [], []⟩,
  ⟨("law", none), "law", "law", defArgs (top 44), defBody (top 44), defScope (top 44), [], []⟩,
  ⟨("BadValue", some "__init__"), "__init__", "BadValue.__init__", defArgs (inClass (top 3) 0), defBody (inClass (top 3) 0), defScope (inClass (top 3) 0), [], []⟩]
abbrev R : PySem.W.OpenRow := PySem.W.OpenLaw.row PySem.Challenge.rw_oddscall_k11_order_of_numbers
def loose : List PySem.Str := (["__name__", "OddsError", "BadValue", "ZERO", "is_integer", "is_rational", "reduced", "ratio", "plus", "minus", "times", "sign", "is_square", "is_root", "is_number", "check_number", "parts_of", "square_sign", "two_roots_sign", "total_sign", "compare_numbers", "_law_stream", "_law_next", "_law_is_integer", "_law_gcd", "_law_low", "_law_plus", "_law_times", "_law_power", "_law_ratio"] : List PySem.Str) ++ (["_law_equal", "_law_root", "_law_is_square", "_law_number", "_law_beside", "_law_floor", "_law_compare", "_law_told", "_law_near"] : List PySem.Str)
abbrev hk : PySem.W.Hook := hookY 5 tab fns
def ob (s : PySem.W.SharedT) : He.AlT := obsY 5 tab fns (HandSHeadRun.getT s)
theorem ob_eq (s : PySem.W.SharedT) : ob s = hk.obs s.abs := obsY_eq (HandSHeadRun.getT_eq s)
theorem run (w : World) : HandSHeadRun.RunEqI R (PySem.W.view R.prog [0, 44]) hk ob 12000 loose w := by
  unfold HandSHeadRun.RunEqI
  kernel_rfl
theorem facts {P : Program} {w : World} {K : PySem.W.Frag} {h : Heap} {mg : Str → Option Value} {f : Addr} (X : K.In h) (G : h.Ns mainGlobals mg) (hfa : mg ("law" : Str) = some (.ref f)) (c : SaysZ tab fns w K) :
    ∃ fd : FuncData, (∀ (s : Shared) (v : Value), BindsTo s fd ⟨[v], []⟩ [("_law_script", v)]) ∧ ∀ base : Heap, FnOk P w K mg base (L2.CX P w) 13 f fd ["_law_script"] (spF K mg 1 F_law) := by
  have T : Tx tab K mg := Tab.tx c.tab X G
  obtain ⟨fd_sign, D_sign⟩ := c.def_ 0 rfl
  obtain ⟨fd_reduced, D_reduced⟩ := c.def_ 1 rfl
  obtain ⟨fd_minus, D_minus⟩ := c.def_ 2 rfl
  obtain ⟨fd_times, D_times⟩ := c.def_ 3 rfl
  obtain ⟨fd_square_sign, D_square_sign⟩ := c.def_ 4 rfl
  obtain ⟨fd_plus, D_plus⟩ := c.def_ 5 rfl
  obtain ⟨fd_two_roots_sign, D_two_roots_sign⟩ := c.def_ 6 rfl
  obtain ⟨fd_total_sign, D_total_sign⟩ := c.def_ 7 rfl
  obtain ⟨fd_ratio, D_ratio⟩ := c.def_ 8 rfl
  obtain ⟨fd_parts_of, D_parts_of⟩ := c.def_ 9 rfl
  obtain ⟨fd_is_square, D_is_square⟩ := c.def_ 10 rfl
  obtain ⟨fd_is_integer, D_is_integer⟩ := c.def_ 11 rfl
  obtain ⟨fd_is_root, D_is_root⟩ := c.def_ 12 rfl
  obtain ⟨fd_is_rational, D_is_rational⟩ := c.def_ 13 rfl
  obtain ⟨fd_is_number, D_is_number⟩ := c.def_ 14 rfl
  obtain ⟨fd_check_number, D_check_number⟩ := c.def_ 15 rfl
  obtain ⟨fd_compare_numbers, D_compare_numbers⟩ := c.def_ 16 rfl
  obtain ⟨fd__law_told, D__law_told⟩ := c.def_ 17 rfl
  obtain ⟨fd__law_next, D__law_next⟩ := c.def_ 18 rfl
  obtain ⟨fd__law_is_integer, D__law_is_integer⟩ := c.def_ 19 rfl
  obtain ⟨fd__law_equal, D__law_equal⟩ := c.def_ 20 rfl
  obtain ⟨fd__law_beside, D__law_beside⟩ := c.def_ 21 rfl
  obtain ⟨fd__law_floor, D__law_floor⟩ := c.def_ 22 rfl
  obtain ⟨fd__law_compare, D__law_compare⟩ := c.def_ 23 rfl
  obtain ⟨fd__law_gcd, D__law_gcd⟩ := c.def_ 24 rfl
  obtain ⟨fd__law_low, D__law_low⟩ := c.def_ 25 rfl
  obtain ⟨fd__law_near, D__law_near⟩ := c.def_ 26 rfl
  obtain ⟨fd__law_root, D__law_root⟩ := c.def_ 27 rfl
  obtain ⟨fd__law_is_square, D__law_is_square⟩ := c.def_ 28 rfl
  obtain ⟨fd__law_ratio, D__law_ratio⟩ := c.def_ 29 rfl
  obtain ⟨fd__law_number, D__law_number⟩ := c.def_ 30 rfl
  obtain ⟨fd__law_stream, D__law_stream⟩ := c.def_ 31 rfl
  obtain ⟨fd_law, D_law⟩ := c.def_ 32 rfl
  have e := hfa.symm.trans (T.mc "law" (by decide))
  cases e
  obtain ⟨fdx_BadValue, Dx_BadValue⟩ := c.def_ 33 rfl
  have X_BadValue := T.xc "BadValue" ["name"] (by decide)
  refine ⟨fd_law, fun s v => FunD.bindsA (ps := ["_law_script"]) D_law (fun _ _ _ _ _ _ us hl => match us, hl with | [_], _ => rfl) s [v] rfl, fun base => ?_⟩
  have xc_BadValue : XC P w K mg base "BadValue" 1 ["name"] := ⟨_, _, fdx_BadValue, ["self", "name"], rfl, T.mc "BadValue" (by decide), X_BadValue.oex, X_BadValue.iC, X_BadValue.tI, Dx_BadValue.bindsN (ps := ["self", "name"]) (fun _ _ _ _ _ _ us hl => match us, hl with | [_, _], _ => rfl), init1 Dx_BadValue (⟨rfl, rfl, rfl, by decide +kernel, rfl, by decide +kernel, by decide +kernel⟩ : FnScope ["self", "name"] ["self", "name"] (defScope (inClass (top 3) 0))) X_BadValue.oex (X_BadValue.no "name" (by decide)) (.inl rfl) (.inl rfl)⟩
  have fs_sign : FS P w K mg base "sign" 1 1 F_sign := sim_sign D_sign (T.mc "sign" (by decide)) T   
  have fs_reduced : FS P w K mg base "reduced" 1 2 F_reduced := sim_reduced D_reduced (T.mc "reduced" (by decide)) T   
  have fs_minus : FS P w K mg base "minus" 2 2 F_minus := sim_minus D_minus (T.mc "minus" (by decide)) T fs_reduced  
  have fs_times : FS P w K mg base "times" 2 2 F_times := sim_times D_times (T.mc "times" (by decide)) T fs_reduced  
  have fs_square_sign : FS P w K mg base "square_sign" 3 3 F_square_sign := sim_square_sign D_square_sign (T.mc "square_sign" (by decide)) T fs_sign fs_minus fs_times  
  have fs_plus : FS P w K mg base "plus" 2 2 F_plus := sim_plus D_plus (T.mc "plus" (by decide)) T fs_reduced  
  have fs_two_roots_sign : FS P w K mg base "two_roots_sign" 3 4 F_two_roots_sign := sim_two_roots_sign D_two_roots_sign (T.mc "two_roots_sign" (by decide)) T fs_sign fs_minus fs_times  
  have fs_total_sign : FS P w K mg base "total_sign" 4 5 F_total_sign := sim_total_sign D_total_sign (T.mc "total_sign" (by decide)) T fs_square_sign fs_times fs_minus fs_plus fs_sign fs_two_roots_sign  
  have fs_ratio : FS P w K mg base "ratio" 3 2 F_ratio := sim_ratio D_ratio (T.mc "ratio" (by decide)) T fs_reduced xc_BadValue 
  have fs_parts_of : FS P w K mg base "parts_of" 4 1 F_parts_of := sim_parts_of D_parts_of (T.mc "parts_of" (by decide)) T fs_ratio  
  have fs_is_square : FS P w K mg base "is_square" 1 1 F_is_square := sim_is_square D_is_square (T.mc "is_square" (by decide)) T   
  have fs_is_integer : FS P w K mg base "is_integer" 1 1 F_is_integer := sim_is_integer D_is_integer (T.mc "is_integer" (by decide)) T   
  have fs_is_root : FS P w K mg base "is_root" 2 1 F_is_root := sim_is_root D_is_root (T.mc "is_root" (by decide)) T fs_is_square fs_is_integer  
  have fs_is_rational : FS P w K mg base "is_rational" 2 1 F_is_rational := sim_is_rational D_is_rational (T.mc "is_rational" (by decide)) T fs_is_integer  
  have fs_is_number : FS P w K mg base "is_number" 3 1 F_is_number := sim_is_number D_is_number (T.mc "is_number" (by decide)) T fs_is_root fs_is_rational  
  have fs_check_number : FS P w K mg base "check_number" 4 2 F_check_number := sim_check_number D_check_number (T.mc "check_number" (by decide)) T fs_is_number xc_BadValue 
  have fs_compare_numbers : FS P w K mg base "compare_numbers" 5 2 F_compare_numbers := sim_compare_numbers D_compare_numbers (T.mc "compare_numbers" (by decide)) T fs_total_sign fs_minus fs_parts_of fs_check_number  
  have fs__law_told : FS P w K mg base "_law_told" 6 2 F__law_told := sim__law_told D__law_told (T.mc "_law_told" (by decide)) T fs_compare_numbers  
  have fs__law_next : FS P w K mg base "_law_next" 1 2 F__law_next := sim__law_next D__law_next (T.mc "_law_next" (by decide)) T   
  have fs__law_is_integer : FS P w K mg base "_law_is_integer" 1 1 F__law_is_integer := sim__law_is_integer D__law_is_integer (T.mc "_law_is_integer" (by decide)) T   
  have fs__law_equal : FS P w K mg base "_law_equal" 12 2 F__law_equal := sim__law_equal D__law_equal (T.mc "_law_equal" (by decide)) T fs__law_is_integer  
  have fs__law_beside : FS P w K mg base "_law_beside" 1 3 F__law_beside := sim__law_beside D__law_beside (T.mc "_law_beside" (by decide)) T   
  have fs__law_floor : FS P w K mg base "_law_floor" 2 4 F__law_floor := sim__law_floor D__law_floor (T.mc "_law_floor" (by decide)) T fs__law_beside  
  have fs__law_compare : FS P w K mg base "_law_compare" 3 2 F__law_compare := sim__law_compare D__law_compare (T.mc "_law_compare" (by decide)) T fs__law_floor  
  have fs__law_gcd : FS P w K mg base "_law_gcd" 1 2 F__law_gcd := sim__law_gcd D__law_gcd (T.mc "_law_gcd" (by decide)) T   
  have fs__law_low : FS P w K mg base "_law_low" 2 2 F__law_low := sim__law_low D__law_low (T.mc "_law_low" (by decide)) T fs__law_gcd  
  have fs__law_near : FS P w K mg base "_law_near" 3 2 F__law_near := sim__law_near D__law_near (T.mc "_law_near" (by decide)) T fs__law_low fs__law_floor fs__law_next  
  have fs__law_root : FS P w K mg base "_law_root" 1 1 F__law_root := sim__law_root D__law_root (T.mc "_law_root" (by decide)) T   
  have fs__law_is_square : FS P w K mg base "_law_is_square" 2 1 F__law_is_square := sim__law_is_square D__law_is_square (T.mc "_law_is_square" (by decide)) T fs__law_root  
  have fs__law_ratio : FS P w K mg base "_law_ratio" 3 3 F__law_ratio := sim__law_ratio D__law_ratio (T.mc "_law_ratio" (by decide)) T fs__law_low fs__law_next  
  have fs__law_number : FS P w K mg base "_law_number" 4 1 F__law_number := sim__law_number D__law_number (T.mc "_law_number" (by decide)) T fs__law_next fs__law_is_square fs__law_gcd fs__law_ratio  
  have fs__law_stream : FS P w K mg base "_law_stream" 1 1 F__law_stream := sim__law_stream D__law_stream (T.mc "_law_stream" (by decide)) T   
  exact sim_law D_law hfa T fs__law_told fs__law_next fs__law_equal fs__law_compare fs__law_near fs__law_number fs__law_stream  
end Zl
/-! Q1: plain mathematics: sizes, fractions, the steps of Euclid. -/
namespace Q
/-- of at most k bits -/
def Bit (k : Nat) (x : Int) : Prop := x.natAbs < 2 ^ k
theorem Bit.mono {j k : Nat} {x : Int} (h : Bit j x) (c : j ≤ k) : Bit k x := Nat.lt_of_lt_of_le h (Nat.pow_le_pow_right (by decide) c)
theorem Bit.mul {j k : Nat} {x y : Int} (h : Bit j x) (g : Bit k y) : Bit (j + k) (x * y) := by
  unfold Bit
  rw [Int.natAbs_mul, Nat.pow_add]
  exact Nat.mul_lt_mul'' h g
theorem Bit.neg {k : Nat} {x : Int} (h : Bit k x) : Bit k (-x) := by unfold Bit; rw [Int.natAbs_neg]; exact h
theorem Bit.add {k : Nat} {x y : Int} (h : Bit k x) (g : Bit k y) : Bit (k + 1) (x + y) := by
  unfold Bit at *
  have := Int.natAbs_add_le x y
  rw [Nat.pow_succ]
  omega
theorem Bit.sub {k : Nat} {x y : Int} (h : Bit k x) (g : Bit k y) : Bit (k + 1) (x - y) := by
  rw [Int.sub_eq_add_neg]
  exact h.add g.neg
theorem Bit.le {k : Nat} {x y : Int} (h : Bit k y) (c : x.natAbs ≤ y.natAbs) : Bit k x := Nat.lt_of_le_of_lt c h
theorem log2_lt {n k : Nat} (h : n < 2 ^ k) (hk : 0 < k) : n.log2 < k := by
  by_cases c : n = 0
  · subst c; simpa using hk
  · exact (Nat.log2_lt c).mpr h
theorem Bit.log {k : Nat} {x : Int} (h : Bit k x) (hk : 0 < k) : x.natAbs.log2 < k := log2_lt h hk
theorem Bit.pos {k : Nat} {x : Int} (h0 : 0 ≤ x) (h : x < 2 ^ k) : Bit k x := by
  unfold Bit
  have e : ((2 ^ k : Nat) : Int) = 2 ^ k := by simp
  omega
theorem Bit.lt {k : Nat} {x : Int} (h : Bit k x) : x < 2 ^ k := by
  unfold Bit at h
  have e : ((2 ^ k : Nat) : Int) = 2 ^ k := by simp
  omega
/-! ### fractions -/
/-- lowest terms -/
def IsRat (p : Int × Int) : Prop := 0 < p.2 ∧ Int.gcd p.1 p.2 = 1
def red (n d : Int) : Int × Int := (n / (Int.gcd n d : Int), d / (Int.gcd n d : Int))
section
variable {n d : Int}
theorem gcd_pos (hd : d ≠ 0) : (0 : Int) < Int.gcd n d := by
  have : 0 < Int.gcd n d := Nat.gcd_pos_of_pos_right _ (by omega)
  omega
theorem red_num (hd : d ≠ 0) : (red n d).1 * (Int.gcd n d : Int) = n := Int.ediv_mul_cancel (Int.gcd_dvd_left ..)
theorem red_den (hd : d ≠ 0) : (red n d).2 * (Int.gcd n d : Int) = d := Int.ediv_mul_cancel (Int.gcd_dvd_right ..)
theorem red_eq (hd : d ≠ 0) : (red n d).1 * d = (red n d).2 * n := by
  have h1 := red_num (n := n) hd
  have h2 := red_den (n := n) hd
  calc (red n d).1 * d = (red n d).1 * ((red n d).2 * (Int.gcd n d : Int)) := by rw [h2]
    _ = (red n d).2 * ((red n d).1 * (Int.gcd n d : Int)) := by rw [← Int.mul_assoc, Int.mul_comm (red n d).1, Int.mul_assoc]
    _ = (red n d).2 * n := by rw [h1]
theorem red_rat (hd : 0 < d) : IsRat (red n d) := by
  have hd0 : d ≠ 0 := by omega
  have g := gcd_pos (n := n) hd0
  constructor
  · have h2 := red_den (n := n) hd0
    by_cases c : 0 < (red n d).2
    · exact c
    · have : (red n d).2 * (Int.gcd n d : Int) ≤ 0 := Int.mul_nonpos_of_nonpos_of_nonneg (by omega) (by omega)
      omega
  · show Int.gcd (n / _) (d / _) = 1
    have hg : 0 < Int.gcd n d := by omega
    exact Int.gcd_ediv_gcd_ediv_gcd hg
theorem red_small : (red n d).1.natAbs ≤ n.natAbs ∧ (red n d).2.natAbs ≤ d.natAbs := by
  constructor
  · show (n / _).natAbs ≤ _
    exact Int.natAbs_ediv_le_natAbs ..
  · show (d / _).natAbs ≤ _
    exact Int.natAbs_ediv_le_natAbs ..
end
theorem dvd_cop {a b c : Int} (h : a ∣ b * c) (g : Int.gcd a b = 1) : a ∣ c := by
  have h1 : a.natAbs ∣ b.natAbs * c.natAbs := by rw [← Int.natAbs_mul]; exact Int.natAbs_dvd_natAbs.mpr h
  exact Int.natAbs_dvd_natAbs.mp (Nat.Coprime.dvd_of_dvd_mul_left (show Nat.Coprime a.natAbs b.natAbs from g) h1)
/-- a fraction in lowest terms is the one -/
theorem rat_unique {p q : Int × Int} (hp : IsRat p) (hq : IsRat q) (e : p.1 * q.2 = q.1 * p.2) : p = q := by
  obtain ⟨p1, p2⟩ := p
  obtain ⟨q1, q2⟩ := q
  obtain ⟨h1, h2⟩ := hp
  obtain ⟨h3, h4⟩ := hq
  dsimp only at *
  have d1 : p2 ∣ q2 := by
    have : p2 ∣ p1 * q2 := ⟨q1, by rw [e, Int.mul_comm]⟩
    exact dvd_cop this (by rw [Int.gcd_comm]; exact h2)
  have d2 : q2 ∣ p2 := by
    have : q2 ∣ q1 * p2 := ⟨p1, by rw [← e, Int.mul_comm]⟩
    exact dvd_cop this (by rw [Int.gcd_comm]; exact h4)
  have e2 : p2 = q2 := Int.dvd_antisymm (by omega) (by omega) d1 d2
  subst e2
  have : p1 = q1 := Int.eq_of_mul_eq_mul_right (by omega) e
  rw [this]
/-! ### Euclid's steps -/
/-- as many turns are enough -/
def steps (b : Nat) : Nat := 2 * (b.log2 + 1)
theorem euclid_half {a b : Nat} (h1 : a % b ≠ 0) (hb : 0 < b) : 2 * (b % (a % b)) < b := by
  have h2 : a % b < b := Nat.mod_lt _ hb
  have h3 : b % (a % b) < a % b := Nat.mod_lt _ (by omega)
  by_cases c : 2 * (a % b) ≤ b
  · omega
  · have : b % (a % b) = b - a % b := by
      rw [Nat.mod_eq_sub_mod (by omega), Nat.mod_eq_of_lt (by omega)]
    omega
theorem log2_half {m n : Nat} (h : 2 * m < n) (hm : m ≠ 0) : m.log2 + 1 ≤ n.log2 := by
  have h1 := Nat.log2_self_le hm
  have : 2 ^ (m.log2 + 1) ≤ n := by rw [Nat.pow_succ]; omega
  exact (Nat.le_log2 (by omega)).mpr this
end Q
/-! C1L: what the common defs answer. -/
namespace Zc
open PySem L2 Z Q
theorem small_of {a b : Nat} {x y : Int} (hx : Bit a x) (hy : Bit b y) (h : a + b ≤ 900000 := by decide) (ha : 0 < a := by decide) (hb : 0 < b := by decide) : small x y := by
  have h1 := hx.log ha
  have h2 := hy.log hb
  show _ + _ < 1000000
  omega
theorem fdivM_pos {x y : Int} {h : IH} (h0 : 0 < y) {k : Nat} (c : Bit k y) (hk : k ≤ 9000 := by decide) (hk0 : 0 < k := by decide) : fdivM (.int x) (.int y) h = .ok (.int (x / y)) h := by
  rw [fdivM_int (by omega) (Nat.lt_of_lt_of_le (c.log hk0) hk), Int.fdiv_eq_ediv_of_nonneg _ (by omega)]
theorem modM_pos {x y : Int} {h : IH} (h0 : 0 < y) : modM (.int x) (.int y) h = .ok (.int (x % y)) h := by
  rw [modM_int (by omega), Int.fmod_eq_emod_of_nonneg _ (by omega)]
section
variable {h : IH} {n d : Int}
theorem ev_is_integer : F_is_integer [.int n] h = .ok (.bl true) h := by simp [F_is_integer, M_is_integer, defM]
theorem ev_law_is_integer : F__law_is_integer [.int n] h = .ok (.bl true) h := by simp [F__law_is_integer, M__law_is_integer, defM]
theorem ev_is_rational : F_is_rational [.tup [.int n, .int d]] h = .ok (.bl (decide (0 < d) && decide (Int.gcd n d = 1))) h := by
  by_cases c : 0 < d
  · simp [F_is_rational, M_is_rational, defM, ev_is_integer, c, Int.gcd]
    by_cases c2 : n.natAbs.gcd d.natAbs = 1
    · simp [c2]
    · have : ¬ ((n.natAbs.gcd d.natAbs : Nat) : Int) = 1 := by omega
      simp [c2, this]
  · simp [F_is_rational, M_is_rational, defM, ev_is_integer, c]
theorem ev_reduced {k : Nat} (hd : 0 < d) (hs : Bit k d) (hk : k ≤ 9000 := by decide) (hk0 : 0 < k := by decide) : F_reduced [.int n, .int d] h = .ok (.tup [.int (red n d).1, .int (red n d).2]) h := by
  have g0 := gcd_pos (n := n) (d := d) (by omega)
  have g1 : Bit k (Int.gcd n d : Int) := hs.le (by
    have : Int.gcd n d ≤ d.natAbs := Nat.le_of_dvd (by omega) (Nat.gcd_dvd_right ..)
    simpa using this)
  have e1 := fun x h => fdivM_pos (x := x) (h := h) g0 g1 hk hk0
  have eg : ((Nat.gcd n.natAbs d.natAbs : Nat) : Int) = (Int.gcd n d : Int) := rfl
  simp [F_reduced, M_reduced, defM, tupM_eq, eg, e1, red]
theorem ev_ratio {k : Nat} (hd : 0 < d) (hs : Bit k d) (hk : k ≤ 9000 := by decide) (hk0 : 0 < k := by decide) : F_ratio [.int n, .int d] h = .ok (.tup [.int (red n d).1, .int (red n d).2]) h := by
  have c : ¬ d = 0 := by omega
  simp [F_ratio, M_ratio, defM, c, hd, ev_reduced hd hs hk hk0]
theorem ev_ratio_neg {k : Nat} (hd : d < 0) (hs : Bit k d) (hk : k ≤ 9000 := by decide) (hk0 : 0 < k := by decide) : F_ratio [.int n, .int d] h = .ok (.tup [.int (red (-n) (-d)).1, .int (red (-n) (-d)).2]) h := by
  have c : ¬ d = 0 := by omega
  have c2 : ¬ 0 < d := by omega
  simp [F_ratio, M_ratio, defM, c, c2, ev_reduced (d := -d) (by omega) hs.neg hk hk0]
end
/-! ### Euclid in the law -/
/-- a turn's body -/
noncomputable def gcdB : MS := (seqM (ifM (btestM (binM eqM (varM 1) (constM (.int 0)))) brkM nextM)
  (parM 0 1 (aconsM (varM 1) (aconsM (binM modM (callM intF (aconsM (varM 0) anilM)) (varM 1)) anilM))))
theorem gcdB0 {a : Int} {x : Option D} {h : IH} : gcdB [some (.int a), some (.int 0), x] h = .bk [some (.int a), some (.int 0), x] h := by simp [gcdB]
theorem gcdB1 {a b : Int} {x : Option D} {h : IH} (hb : 0 < b) : gcdB [some (.int a), some (.int b), x] h = .nx [some (.int b), some (.int (a % b)), x] h := by
  have c : ¬ b = 0 := by omega
  simp [gcdB, c, modM_pos hb]
theorem gcd_mod {a b : Int} (ha : 0 ≤ a) (hb : 0 < b) : Int.gcd b (a % b) = Int.gcd a b := by
  obtain ⟨m, rfl⟩ := Int.eq_ofNat_of_zero_le ha
  obtain ⟨n, rfl⟩ := Int.eq_ofNat_of_zero_le (Int.le_of_lt hb)
  show Nat.gcd n (m % n) = Nat.gcd m n
  rw [Nat.gcd_comm n, ← Nat.gcd_rec, Nat.gcd_comm]
theorem gcdT0 {a : Int} {d : D} {ds : List D} {x : Option D} {h : IH} : forS (gnameM 2) gcdB (d :: ds) [some (.int a), some (.int 0), x] h = .nx [some (.int a), some (.int 0), some d] h := by
  rw [forS_cons, turnM_eq]
  simp [gcdB0]
theorem gcdT1 {a b : Int} {d : D} {ds : List D} {x : Option D} {h : IH} (hb : 0 < b) : forS (gnameM 2) gcdB (d :: ds) [some (.int a), some (.int b), x] h = forS (gnameM 2) gcdB ds [some (.int b), some (.int (a % b)), some d] h := by
  rw [forS_cons, turnM_eq]
  simp [gcdB1 hb]
theorem gcd_loop {h : IH} : ∀ (k : Nat) (a b : Int) (ds : List D) (x : Option D), 0 ≤ a → 0 < b → steps b.natAbs ≤ 2 * k → 2 * k ≤ ds.length →
    ∃ x', forS (gnameM 2) gcdB ds [some (.int a), some (.int b), x] h = .nx [some (.int (Int.gcd a b : Nat)), some (.int 0), x'] h
  | 0, a, b, ds, x, _, _, hs, _ => by unfold steps at hs; omega
  | k + 1, a, b, ds, x, ha, hb, hs, hl => by
    match ds, hl with
    | d1 :: d2 :: ds, hl =>
      rw [gcdT1 hb, ← gcd_mod ha hb]
      have h1 := Int.emod_nonneg a (b := b) (by omega)
      have h2 := Int.emod_lt_of_pos a hb
      by_cases c : a % b = 0
      · rw [c, gcdT0]
        exact ⟨some d2, by simp [Int.gcd]; omega⟩
      · have hb' : 0 < a % b := by omega
        rw [gcdT1 hb', ← gcd_mod (by omega) hb']
        have h3 := Int.emod_nonneg b (b := a % b) (by omega)
        by_cases c2 : b % (a % b) = 0
        · rw [c2]
          match ds with
          | [] => exact ⟨some d2, by simp [Int.gcd]; omega⟩
          | d3 :: ds => rw [gcdT0]; exact ⟨some d3, by simp [Int.gcd]; omega⟩
        · refine gcd_loop k (a % b) (b % (a % b)) ds (some d2) h1 (by omega) ?_ (by simp at hl; omega)
          have hh : (b % (a % b)).natAbs.log2 + 1 ≤ b.natAbs.log2 := by
            refine log2_half ?_ (by omega)
            obtain ⟨m, rfl⟩ := Int.eq_ofNat_of_zero_le ha
            obtain ⟨n, rfl⟩ := Int.eq_ofNat_of_zero_le (Int.le_of_lt hb)
            exact euclid_half (a := m) (b := n) (by intro z; apply c; show ((m % n : Nat) : Int) = 0; omega) (by omega)
          unfold steps at *
          omega
theorem rngD_cons {lo : Int} {n : Nat} : rngD lo (n + 1) = .int lo :: rngD (lo + 1) n := by
  unfold rngD
  rw [List.range_succ_eq_map, List.map_cons, List.map_map]
  congr 1
  · simp
  · congr 1
    funext i
    show D.int (lo + ((i + 1 : Nat) : Int)) = D.int (lo + 1 + (i : Int))
    congr 1
    omega
theorem ev_law_gcd {a b : Int} {h : IH} {k : Nat} (hb : Bit k b) (hk : k ≤ 19000 := by decide) : F__law_gcd [.int a, .int b] h = .ok (.int (Int.gcd a b : Nat)) h := by
  have ea : (if a < 0 then -a else a) = ((a.natAbs : Nat) : Int) := by split <;> omega
  have eb : (if b < 0 then -b else b) = ((b.natAbs : Nat) : Int) := by split <;> omega
  have key : ∃ x', forS (gnameM 2) gcdB (rngD 0 40000) [some (.int (a.natAbs : Nat)), some (.int (b.natAbs : Nat)), none] h = .nx [some (.int (Int.gcd a b : Nat)), some (.int 0), x'] h := by
    by_cases c : b.natAbs = 0
    · rw [c, show (40000 : Nat) = 39999 + 1 from rfl, rngD_cons]
      have : b = 0 := by omega
      subst this
      refine ⟨some (.int 0), gcdT0.trans ?_⟩
      simp [Int.gcd]
    · have := gcd_loop (h := h) 19002 (a.natAbs : Int) (b.natAbs : Int) (rngD 0 40000) none (by omega) (by omega) (by
        have := log2_lt (n := b.natAbs) (k := k + 1) (Nat.lt_of_lt_of_le hb (Nat.pow_le_pow_right (by decide) (by omega))) (by omega)
        unfold steps
        simp only [Int.natAbs_natCast]
        omega) (by rw [rngD_length]; decide)
      rw [show Int.gcd (a.natAbs : Int) (b.natAbs : Int) = Int.gcd a b by simp [Int.gcd]] at this
      exact this
  obtain ⟨x', key⟩ := key
  unfold gcdB at key
  simp only [F__law_gcd, M__law_gcd, defM, seqM_eq, setM_eq, callM_eq, aconsM_eq, anilM_eq, varM_eq, constM_eq, List.map, List.length, List.cons_append, List.nil_append, List.append, List.replicate, List.getElem?_cons_zero, List.getElem?_cons_succ, R.bindG_ok, absF_int, ea, eb, List.set, forM_eq, rngI1_eq]
  rw [if_pos (rng_of (by decide) (by decide))]
  simp only [R.bindG_ok]
  rw [show (40000 : Int).toNat = 40000 from rfl, key]
  simp
end Zc
/-! C1N: the law's draws. -/
namespace Zc
open PySem L2 Z Q
/-- a stream stands at s, with at most n cells taken -/
def Strm (n : Nat) (h : IH) (s : Nat) : Prop := ∃ (l : Nat) (ns : List Int) (c k : Int), h[s]? = some (.lst [.ref l, .int c, .int k]) ∧ h[l]? = some (.lst (ns.map .int)) ∧ s ≠ l ∧ 0 ≤ c ∧ 0 ≤ k ∧ k ≤ n
/-- what a draw leaves: the stream, all else as it was -/
structure Drew (n : Nat) (h : IH) (s : Nat) (h' : IH) : Prop where
  st : Strm (n + 1) h' s
  len : h'.length = h.length
  keep : ∀ i, i ≠ s → h'[i]? = h[i]?
theorem Drew.get {n : Nat} {h h' : IH} {s : Nat} (w : Drew n h s h') {i : Nat} {o : IO} (e : h[i]? = some o) (ne : i ≠ s) : h'[i]? = some o := (w.keep i ne).trans e
theorem Strm.app {n : Nat} {h g : IH} {s : Nat} (w : Strm n h s) : Strm n (h ++ g) s := by
  obtain ⟨l, ns, c, k, h1, h2, h3⟩ := w
  have e : ∀ {i : Nat} {o : IO}, h[i]? = some o → (h ++ g)[i]? = some o := fun {i o} z => by
    rw [List.getElem?_append_left (List.getElem?_eq_some_iff.mp z).1]; exact z
  exact ⟨l, ns, c, k, e h1, e h2, h3⟩
theorem Strm.lt {n : Nat} {h : IH} {s : Nat} (w : Strm n h s) : s < h.length := by
  obtain ⟨l, ns, c, k, h1, _⟩ := w
  exact (List.getElem?_eq_some_iff.mp h1).1
theorem Strm.mono {n m : Nat} {h : IH} {s : Nat} (w : Strm n h s) (c : n ≤ m) : Strm m h s := by
  obtain ⟨l, ns, c', k, h1, h2, h3, h4, h5, h6⟩ := w
  exact ⟨l, ns, c', k, h1, h2, h3, h4, h5, by omega⟩
theorem Strm.set {n : Nat} {h : IH} {s i : Nat} {o : IO} (w : Strm n h s) (hi : i ≠ s) (hl : ∀ ns : List Int, h[i]? ≠ some (.lst (ns.map .int))) : Strm n (h.set i o) s := by
  obtain ⟨l, ns, c', k, h1, h2, h3⟩ := w
  exact ⟨l, ns, c', k, by rw [List.getElem?_set_ne hi]; exact h1, by rw [List.getElem?_set_ne (by rintro rfl; exact hl _ h2)]; exact h2, h3⟩
theorem set_get {h : IH} {i : Nat} {o o' : IO} (e : h[i]? = some o) : (h.set i o')[i]? = some o' := List.getElem?_set_self (List.getElem?_eq_some_iff.mp e).1
@[simp] theorem ixN_1 {a b : Nat} : ixN (a + 1 + 1) 1 = some 1 := by
  unfold ixN
  rw [if_pos (by decide), if_pos (by omega)] <;> rfl
@[simp] theorem ixN_2 {a : Nat} : ixN (a + 1 + 1 + 1) 2 = some 2 := by
  unfold ixN
  rw [if_pos (by decide), if_pos (by omega)] <;> rfl
noncomputable def nextA : MS := (ifM (btestM (binM eqM (binM ixM (varM 0) (constM (.int 1))) (constM (.int 0)))) (seqM (setM 3 (binM ixM (varM 0) (constM (.int 2))))
  (seqM (setM 4 (binM addM (constM (.int 7)) (varM 3)))
  (seqM (ifM (btestM (binM ltM (varM 3) (callM lenF (aconsM (binM ixM (varM 0) (constM (.int 0))) anilM)))) (setM 4 (callM absF (aconsM (binM ixM (binM ixM (varM 0) (constM (.int 0))) (varM 3)) anilM))) nextM)
  (seqM (ifM (btestM (binM ltM (varM 4) (binM powM (constM (.int 10)) (constM (.int 18))))) (seqM (setM 4 (binM modM (callM intF (aconsM (binM addM (binM addM (binM mulM (varM 4) (constM (.int 48271))) (binM mulM (varM 3) (constM (.int 69621)))) (constM (.int 11))) anilM)) (constM (.int 2147483647))))
  (setM 4 (binM addM (binM mulM (binM modM (callM intF (aconsM (binM addM (binM mulM (varM 4) (constM (.int 16807))) (constM (.int 13))) anilM)) (constM (.int 2147483647))) (constM (.int 65537))) (varM 4)))) nextM)
  (seqM (putM setL (varM 0) (constM (.int 1)) (varM 4))
  (putM setL (varM 0) (constM (.int 2)) (binM addM (varM 3) (constM (.int 1))))))))) nextM)
noncomputable def nextB : MS := (seqM (setM 2 (binM modM (callM intF (aconsM (binM ixM (varM 0) (constM (.int 1))) anilM)) (varM 1)))
  (seqM (putM setL (varM 0) (constM (.int 1)) (binM fdivM (binM ixM (varM 0) (constM (.int 1))) (varM 1)))
  (retM (varM 2))))
theorem next_is : M__law_next = seqM nextA nextB := rfl
theorem nextB_ev {h : IH} {s l : Nat} {c k m : Int} {x y z : Option D} (h1 : h[s]? = some (.lst [.ref l, .int c, .int k])) (hm : 0 < m) {b : Nat} (hb : Bit b m) (hb9 : b ≤ 9000) (hb0 : 0 < b) :
    nextB [some (.ref s), some (.int m), x, y, z] h = .rt (.int (c % m)) (h.set s (.lst [.ref l, .int (c / m), .int k])) := by
  have e1 := fun x h => fdivM_pos (x := x) (h := h) hm hb hb9 hb0
  simp [nextB, ixM_ref h1, modM_pos hm, e1, setL_ref h1, ixN]
theorem nextA_no {h : IH} {s l : Nat} {c k : Int} {x y z u : Option D} (h1 : h[s]? = some (.lst [.ref l, .int c, .int k])) (hc : c ≠ 0) :
    nextA [some (.ref s), x, y, z, u] h = .nx [some (.ref s), x, y, z, u] h := by
  simp [nextA, ixM_ref h1, hc]
/-- a cell turned into the one that is used -/
theorem mix_ev {h : IH} {cell k : Int} {a x y : Option D} (h0 : 0 ≤ cell) (hk : 0 ≤ k) (hk2 : k ≤ 1000000000) :
    ∃ cell', 0 ≤ cell' ∧ (ifM (btestM (binM ltM (varM 4) (binM powM (constM (.int 10)) (constM (.int 18))))) (seqM (setM 4 (binM modM (callM intF (aconsM (binM addM (binM addM (binM mulM (varM 4) (constM (.int 48271))) (binM mulM (varM 3) (constM (.int 69621)))) (constM (.int 11))) anilM)) (constM (.int 2147483647))))
  (setM 4 (binM addM (binM mulM (binM modM (callM intF (aconsM (binM addM (binM mulM (varM 4) (constM (.int 16807))) (constM (.int 13))) anilM)) (constM (.int 2147483647))) (constM (.int 65537))) (varM 4)))) nextM) [a, x, y, some (.int k), some (.int cell)] h = .nx [a, x, y, some (.int k), some (.int cell')] h := by
  have p18 := powM_int (x := 10) (y := 18) (h := h) (by decide)
  by_cases c : cell < 10 ^ 18
  · have s1 : small cell 48271 := small_of (a := 64) (b := 64) (Bit.pos h0 (by omega)) (Bit.pos (by decide) (by decide))
    have s2 : small k 69621 := small_of (a := 64) (b := 64) (Bit.pos hk (by omega)) (Bit.pos (by decide) (by decide))
    have n1 := Int.emod_nonneg (cell * 48271 + k * 69621 + 11) (b := 2147483647) (by decide)
    have n2 := Int.emod_lt_of_pos (cell * 48271 + k * 69621 + 11) (b := 2147483647) (by decide)
    have s3 : small ((cell * 48271 + k * 69621 + 11) % 2147483647) 16807 := small_of (a := 64) (b := 64) (Bit.pos n1 (by omega)) (Bit.pos (by decide) (by decide))
    have n3 := Int.emod_nonneg ((cell * 48271 + k * 69621 + 11) % 2147483647 * 16807 + 13) (b := 2147483647) (by decide)
    have n4 := Int.emod_lt_of_pos ((cell * 48271 + k * 69621 + 11) % 2147483647 * 16807 + 13) (b := 2147483647) (by decide)
    have s4 : small (((cell * 48271 + k * 69621 + 11) % 2147483647 * 16807 + 13) % 2147483647) 65537 := small_of (a := 64) (b := 64) (Bit.pos n3 (by omega)) (Bit.pos (by decide) (by decide))
    refine ⟨((cell * 48271 + k * 69621 + 11) % 2147483647 * 16807 + 13) % 2147483647 * 65537 + (cell * 48271 + k * 69621 + 11) % 2147483647, by omega, ?_⟩
    simp only [ifM_eq, btestM_eq, binM_eq, varM_eq, List.getElem?_cons_succ, List.getElem?_cons_zero, R.bindG_ok, constM_eq, p18, ltM_int, seqM_eq, setM_eq, callM_eq, aconsM_eq, anilM_eq, intF_int, addM_int, List.set, mulM_int s1, mulM_int s2, modM_pos (show (0:Int) < 2147483647 by decide), mulM_int s3, mulM_int s4]
    simp only [show (18 : Int).toNat = 18 from rfl, c, decide_true, if_true]
  · refine ⟨cell, h0, ?_⟩
    simp only [ifM_eq, btestM_eq, binM_eq, varM_eq, List.getElem?_cons_succ, List.getElem?_cons_zero, R.bindG_ok, constM_eq, p18, ltM_int, nextM_eq]
    simp only [show (18 : Int).toNat = 18 from rfl, c, decide_false, Bool.false_eq_true, if_false]
theorem nextA_yes {h : IH} {s l : Nat} {ns : List Int} {k : Int} {x y z u : Option D} (h1 : h[s]? = some (.lst [.ref l, .int 0, .int k])) (h2 : h[l]? = some (.lst (ns.map .int))) (ne : s ≠ l) (hk : 0 ≤ k) (hk2 : k ≤ 1000000000) :
    ∃ c z' u', 0 ≤ c ∧ nextA [some (.ref s), x, y, z, u] h = .nx [some (.ref s), x, y, z', u'] (h.set s (.lst [.ref l, .int c, .int (k + 1)])) := by
  have fin : ∀ cell : Int, 0 ≤ cell → ∃ c z' u', 0 ≤ c ∧ (seqM (ifM (btestM (binM ltM (varM 4) (binM powM (constM (.int 10)) (constM (.int 18))))) (seqM (setM 4 (binM modM (callM intF (aconsM (binM addM (binM addM (binM mulM (varM 4) (constM (.int 48271))) (binM mulM (varM 3) (constM (.int 69621)))) (constM (.int 11))) anilM)) (constM (.int 2147483647))))
  (setM 4 (binM addM (binM mulM (binM modM (callM intF (aconsM (binM addM (binM mulM (varM 4) (constM (.int 16807))) (constM (.int 13))) anilM)) (constM (.int 2147483647))) (constM (.int 65537))) (varM 4)))) nextM)
  (seqM (putM setL (varM 0) (constM (.int 1)) (varM 4))
  (putM setL (varM 0) (constM (.int 2)) (binM addM (varM 3) (constM (.int 1)))))) [some (.ref s), x, y, some (.int k), some (.int cell)] h = .nx [some (.ref s), x, y, z', u'] (h.set s (.lst [.ref l, .int c, .int (k + 1)])) := fun cell h0 => by
    obtain ⟨c', h3, h4⟩ := mix_ev (h := h) (cell := cell) (k := k) (a := some (.ref s)) (x := x) (y := y) h0 hk hk2
    refine ⟨c', some (.int k), some (.int c'), h3, ?_⟩
    have h5 : (h.set s (.lst [.ref l, .int c', .int k]))[s]? = some (.lst [.ref l, .int c', .int k]) := set_get h1
    rw [seqM_eq, h4]
    simp [setL_ref h1, setL_ref h5, List.set_set, ixN]
  by_cases c : k < ns.length
  · have ek : atI (ns.map D.int) k = some (.int (ns[k.toNat]'(by omega))) := by
      have : ((k.toNat : Nat) : Int) = k := by omega
      conv => lhs; rw [← this]
      exact atI_of (by simp)
    have habs : (0 : Int) ≤ (if ns[k.toNat]'(by omega) < 0 then -(ns[k.toNat]'(by omega)) else ns[k.toNat]'(by omega)) := by split <;> omega
    obtain ⟨c', z', u', h3, h4⟩ := fin _ habs
    refine ⟨c', z', u', h3, ?_⟩
    rw [← h4]
    have lm : (ns.map D.int).length = ns.length := by simp
    simp only [nextA, ifM_eq, btestM_eq, binM_eq, varM_eq, List.getElem?_cons_succ, List.getElem?_cons_zero, R.bindG_ok, constM_eq, ixM_ref h1, atI_0, atI_1, atI_2, eqM_int, decide_true, if_true, seqM_eq, setM_eq, List.set, addM_int, callM_eq, aconsM_eq, anilM_eq, lenF_ref h2, ltM_int, lm, c, ixM_ref h2, ek, absF_int]
  · obtain ⟨c', z', u', h3, h4⟩ := fin (7 + k) (by omega)
    refine ⟨c', z', u', h3, ?_⟩
    rw [← h4]
    have lm : (ns.map D.int).length = ns.length := by simp
    simp only [nextA, ifM_eq, btestM_eq, binM_eq, varM_eq, List.getElem?_cons_succ, List.getElem?_cons_zero, R.bindG_ok, constM_eq, ixM_ref h1, atI_0, atI_1, atI_2, eqM_int, decide_true, if_true, seqM_eq, setM_eq, List.set, addM_int, callM_eq, aconsM_eq, anilM_eq, lenF_ref h2, ltM_int, lm, c, decide_false, Bool.false_eq_true, if_false, nextM_eq]
theorem ev_next {n : Nat} {h : IH} {s : Nat} {m : Int} (w : Strm n h s) (hn : n ≤ 1000000000) (hm : 0 < m) {b : Nat} (hb : Bit b m) (hb9 : b ≤ 9000 := by decide) (hb0 : 0 < b := by decide) :
    ∃ (d : Int) (h' : IH), F__law_next [.ref s, .int m] h = .ok (.int d) h' ∧ 0 ≤ d ∧ d < m ∧ Drew n h s h' := by
  obtain ⟨l, ns, c, k, h1, h2, ne, hc, hk, hkn⟩ := w
  have fin : ∀ (h' : IH) (c' k' : Int) (z u : Option D), h'[s]? = some (.lst [.ref l, .int c', .int k']) → h'.length = h.length → (∀ i, i ≠ s → h'[i]? = h[i]?) → 0 ≤ c' → 0 ≤ k' → k' ≤ ((n + 1 : Nat) : Int) →
      nextA [some (.ref s), some (.int m), none, none, none] h = .nx [some (.ref s), some (.int m), none, z, u] h' →
      ∃ (d : Int) (h' : IH), F__law_next [.ref s, .int m] h = .ok (.int d) h' ∧ 0 ≤ d ∧ d < m ∧ Drew n h s h' := fun h' c' k' z u g1 gl gk gc gk0 gkn ga => by
    have e := nextB_ev (x := none) (y := z) (z := u) g1 hm hb hb9 hb0
    refine ⟨c' % m, h'.set s (.lst [.ref l, .int (c' / m), .int k']), ?_, Int.emod_nonneg _ (by omega), Int.emod_lt_of_pos _ hm, ⟨l, ns, c' / m, k', set_get g1, ?_, ne, Int.ediv_nonneg gc (by omega), gk0, gkn⟩, by rw [List.length_set, gl], fun i hi => ?_⟩
    · unfold F__law_next defM
      rw [next_is, seqM_eq]
      simp only [List.map, List.length, List.cons_append, List.nil_append, List.append, List.replicate]
      rw [ga]
      dsimp only
      rw [e]
      exact trunc_len (by rw [List.length_set, gl])
    · rw [List.getElem?_set_ne ne, gk l (Ne.symm ne)]; exact h2
    · rw [List.getElem?_set_ne (Ne.symm hi), gk i hi]
  by_cases c0 : c = 0
  · subst c0
    obtain ⟨c', z', u', h3, h4⟩ := nextA_yes (x := some (.int m)) (y := none) (z := none) (u := none) h1 h2 ne hk (by omega)
    exact fin _ c' (k + 1) z' u' (set_get h1) (List.length_set ..) (fun i hi => List.getElem?_set_ne (Ne.symm hi)) h3 (by omega) (by omega) h4
  · exact fin h c k none none h1 rfl (fun _ _ => rfl) hc hk (by omega) (nextA_no h1 c0)
theorem ev_stream {ds : List Int} {h : IH} : F__law_stream [.fz (ds.map .int)] h = .ok (.ref (h.length + 1)) (h ++ [.lst (ds.map .int), .lst [.ref h.length, .int 0, .int 0]]) := by
  simp [F__law_stream, M__law_stream, defM, lstM_eq, newL_eq]
  exact trunc_new (by omega)
theorem strm0 {ds : List Int} : Strm 0 [.lst (ds.map .int), .lst [.ref 0, .int 0, .int 0]] 1 := ⟨0, ds, 0, 0, rfl, rfl, by decide, by decide, by decide, by decide⟩
end Zc
/-! C2L: rationals: the common defs over Rat. -/
namespace Zc
open PySem L2 Z Q
/-- a rational, as the program has it -/
def dr (r : Rat) : D := .tup [.int r.num, .int (r.den : Int)]
theorem red_divInt {n d : Int} (hd : 0 < d) : red n d = ((Rat.divInt n d).num, ((Rat.divInt n d).den : Int)) := by
  have h0 : d ≠ 0 := by omega
  have dp : 0 < ((Rat.divInt n d).den : Int) := by
    have := (Rat.divInt n d).den_pos
    omega
  refine rat_unique (red_rat hd) ⟨dp, ?_⟩ ?_
  · have := (Rat.divInt n d).reduced
    exact this
  · have h1 := red_eq (n := n) h0
    have h2 : (Rat.divInt n d).num * d = n * ((Rat.divInt n d).den : Int) := (Rat.divInt_eq_divInt_iff (by omega) h0).mp (Rat.num_divInt_den _)
    refine Int.eq_of_mul_eq_mul_right h0 ?_
    dsimp only
    calc (red n d).1 * ((Rat.divInt n d).den : Int) * d = ((red n d).1 * d) * ((Rat.divInt n d).den : Int) := by ac_rfl
      _ = (red n d).2 * (n * ((Rat.divInt n d).den : Int)) := by rw [h1]; ac_rfl
      _ = (Rat.divInt n d).num * (red n d).2 * d := by rw [← h2]; ac_rfl
/-- sizes -/
structure RB (k : Nat) (r : Rat) : Prop where
  n : Bit k r.num
  d : Bit k (r.den : Int)
theorem RB.divInt {k : Nat} {n d : Int} (hn : Bit k n) (hd : Bit k d) (h0 : d ≠ 0) : RB k (Rat.divInt n d) := by
  by_cases c : 0 < d
  · have e := red_divInt (n := n) c
    have s := red_small (n := n) (d := d)
    rw [e] at s
    exact ⟨hn.le s.1, hd.le s.2⟩
  · have e := red_divInt (n := -n) (d := -d) (by omega)
    have s := red_small (n := -n) (d := -d)
    rw [e, Rat.neg_divInt_neg] at s
    exact ⟨hn.neg.le s.1, hd.neg.le s.2⟩
theorem den_ne {r : Rat} : (r.den : Int) ≠ 0 := by
  have := r.den_pos
  omega
theorem den_pos' {r : Rat} : 0 < (r.den : Int) := by
  have := r.den_pos
  omega
theorem add_is {a b : Rat} : a + b = Rat.divInt (a.num * b.den + b.num * a.den) (a.den * b.den) := by
  conv => lhs; rw [← Rat.num_divInt_den a, ← Rat.num_divInt_den b]
  exact Rat.divInt_add_divInt _ _ den_ne den_ne
theorem sub_is {a b : Rat} : a - b = Rat.divInt (a.num * b.den - b.num * a.den) (a.den * b.den) := by
  conv => lhs; rw [← Rat.num_divInt_den a, ← Rat.num_divInt_den b]
  exact Rat.divInt_sub_divInt _ _ den_ne den_ne
theorem mul_is {a b : Rat} : a * b = Rat.divInt (a.num * b.num) (a.den * b.den) := by
  conv => lhs; rw [← Rat.num_divInt_den a, ← Rat.num_divInt_den b]
  exact Rat.divInt_mul_divInt _ _
theorem RB.add {k l : Nat} {a b : Rat} (ha : RB k a) (hb : RB l b) : RB (k + l + 1) (a + b) := by
  rw [add_is]
  refine RB.divInt ?_ ((ha.d.mul hb.d).mono (by omega)) (Int.mul_ne_zero den_ne den_ne)
  have h1 := ha.n.mul hb.d
  have h2 := hb.n.mul ha.d
  rw [Nat.add_comm l k] at h2
  exact h1.add h2
theorem RB.sub {k l : Nat} {a b : Rat} (ha : RB k a) (hb : RB l b) : RB (k + l + 1) (a - b) := by
  rw [sub_is]
  refine RB.divInt ?_ ((ha.d.mul hb.d).mono (by omega)) (Int.mul_ne_zero den_ne den_ne)
  have h1 := ha.n.mul hb.d
  have h2 := (hb.n.mul ha.d).neg
  rw [Nat.add_comm l k] at h2
  exact h1.add h2
theorem RB.mul {k l : Nat} {a b : Rat} (ha : RB k a) (hb : RB l b) : RB (k + l) (a * b) := by
  rw [mul_is]
  exact RB.divInt (ha.n.mul hb.n) (ha.d.mul hb.d) (Int.mul_ne_zero den_ne den_ne)
theorem RB.neg {k : Nat} {a : Rat} (ha : RB k a) : RB k (-a) := ⟨ha.n.neg, ha.d⟩
theorem RB.mono {k l : Nat} {a : Rat} (ha : RB k a) (c : k ≤ l) : RB l a := ⟨ha.n.mono c, ha.d.mono c⟩
section
variable {h : IH} {n d : Int} {a b : Rat} {k l : Nat}
theorem ev_reducedR (hd : 0 < d) (hs : Bit k d) (hk : k ≤ 9000 := by decide) (hk0 : 0 < k := by decide) : F_reduced [.int n, .int d] h = .ok (dr (Rat.divInt n d)) h := by
  rw [ev_reduced hd hs hk hk0, red_divInt hd] <;> rfl
theorem ev_ratioR (hd : d ≠ 0) (hs : Bit k d) (hk : k ≤ 9000 := by decide) (hk0 : 0 < k := by decide) : F_ratio [.int n, .int d] h = .ok (dr (Rat.divInt n d)) h := by
  by_cases c : 0 < d
  · rw [ev_ratio c hs hk hk0, red_divInt c] <;> rfl
  · rw [ev_ratio_neg (by omega) hs hk hk0, red_divInt (by omega), Rat.neg_divInt_neg] <;> rfl
theorem fdiv_neg_of {g m : Int} (hg : 0 < g) : (m * g).fdiv (-g) = -m := by
  have : m * g = (-m) * (-g) := by rw [Int.neg_mul_neg]
  rw [this, Int.mul_fdiv_cancel _ (by omega)]
theorem ev_law_lowR (hd : d ≠ 0) (hs : Bit k d) (hk : k ≤ 9000 := by decide) (hk0 : 0 < k := by decide) : F__law_low [.int n, .int d] h = .ok (dr (Rat.divInt n d)) h := by
  have g0 := gcd_pos (n := n) (d := d) hd
  have gB : Bit k (Int.gcd n d : Int) := hs.le (by
    have : Int.gcd n d ≤ d.natAbs := Nat.le_of_dvd (by omega) (Nat.gcd_dvd_right ..)
    simpa using this)
  have eg := ev_law_gcd (a := n) (b := d) (h := h) hs (by omega)
  by_cases c : 0 < d
  · have e1 := fun x h => fdivM_pos (x := x) (h := h) g0 gB hk hk0
    have c' : ¬ d < 0 := by omega
    simp [F__law_low, M__law_low, defM, eg, c', tupM_eq, e1]
    show D.tup [D.int (red n d).1, D.int (red n d).2] = _
    rw [red_divInt c] <;> rfl
  · have c' : d < 0 := by omega
    have e1 := fun x h => fdivM_int (x := x) (y := -(Int.gcd n d : Int)) (h := h) (by omega) (by rw [Int.natAbs_neg]; exact Nat.lt_of_lt_of_le (gB.log hk0) hk)
    simp [F__law_low, M__law_low, defM, eg, c', tupM_eq, e1]
    have z : ∀ x : Int, (Int.gcd n d : Int) ∣ x → x.fdiv (-(Int.gcd n d : Int)) = (-x) / (Int.gcd n d : Int) := fun x hx => by
      obtain ⟨m, rfl⟩ := hx
      rw [Int.mul_comm, fdiv_neg_of g0, ← Int.neg_mul, Int.mul_ediv_cancel _ (by omega)]
    rw [z n (Int.gcd_dvd_left ..), z d (Int.gcd_dvd_right ..)]
    have q : red (-n) (-d) = ((-n) / (Int.gcd n d : Int), (-d) / (Int.gcd n d : Int)) := by
      unfold red
      rw [Int.gcd_neg, Int.neg_gcd]
    have q2 := red_divInt (n := -n) (d := -d) (by omega)
    rw [Rat.neg_divInt_neg, q] at q2
    have q3 := congrArg Prod.fst q2
    have q4 := congrArg Prod.snd q2
    dsimp only at q3 q4
    rw [q3, q4] <;> rfl
theorem ixM_tup2_0 {x y : D} : ixM (.tup [x, y]) (.int 0) h = .ok x h := by simp
@[simp] theorem okV_dr : okV h (dr a) = .ok (dr a) h := rfl
@[simp] theorem tyN_dr : tyN h (dr a) = some "tuple" := rfl
@[simp] theorem ixM_dr0 : ixM (dr a) (.int 0) h = .ok (.int a.num) h := ixM_tup2_0
@[simp] theorem ixM_dr1 : ixM (dr a) (.int 1) h = .ok (.int (a.den : Int)) h := by simp [dr]
theorem ev_plus (ha : RB k a) (hb : RB l b) (hk : k + l ≤ 9000 := by decide) (h0 : 0 < k := by decide) (h1 : 0 < l := by decide) : F_plus [dr a, dr b] h = .ok (dr (a + b)) h := by
  have s1 := small_of ha.n hb.d (by omega) h0 h1
  have s2 := small_of ha.d hb.n (by omega) h0 h1
  have s3 := small_of ha.d hb.d (by omega) h0 h1
  have e := ev_reducedR (h := h) (n := a.num * b.den + a.den * b.num) (d := a.den * b.den) (Int.mul_pos den_pos' den_pos') (ha.d.mul hb.d) hk (by omega)
  rw [add_is, Int.mul_comm b.num]
  simp [F_plus, M_plus, defM, ixM_dr0, ixM_dr1, mulM_int s1, mulM_int s2, mulM_int s3, e]
theorem ev_minus (ha : RB k a) (hb : RB l b) (hk : k + l ≤ 9000 := by decide) (h0 : 0 < k := by decide) (h1 : 0 < l := by decide) : F_minus [dr a, dr b] h = .ok (dr (a - b)) h := by
  have s1 := small_of ha.n hb.d (by omega) h0 h1
  have s2 := small_of ha.d hb.n (by omega) h0 h1
  have s3 := small_of ha.d hb.d (by omega) h0 h1
  have e := ev_reducedR (h := h) (n := a.num * b.den - a.den * b.num) (d := a.den * b.den) (Int.mul_pos den_pos' den_pos') (ha.d.mul hb.d) hk (by omega)
  rw [sub_is, Int.mul_comm b.num]
  simp [F_minus, M_minus, defM, ixM_dr0, ixM_dr1, mulM_int s1, mulM_int s2, mulM_int s3, e]
theorem ev_times (ha : RB k a) (hb : RB l b) (hk : k + l ≤ 9000 := by decide) (h0 : 0 < k := by decide) (h1 : 0 < l := by decide) : F_times [dr a, dr b] h = .ok (dr (a * b)) h := by
  have s1 := small_of ha.n hb.n (by omega) h0 h1
  have s3 := small_of ha.d hb.d (by omega) h0 h1
  have e := ev_reducedR (h := h) (n := a.num * b.num) (d := a.den * b.den) (Int.mul_pos den_pos' den_pos') (ha.d.mul hb.d) hk (by omega)
  rw [mul_is]
  simp [F_times, M_times, defM, ixM_dr0, ixM_dr1, mulM_int s1, mulM_int s3, e]
end
end Zc
/-! C2E: the law's own ==. -/
namespace Zc
open PySem L2 Z Q
theorem eqr_succ {k : Nat} {ds : List D} {h : IH} : F__law_equal_r (k + 1) ds h = defM 3 (M__law_equal (F__law_equal_r k)) ds h := rfl
section
variable {h : IH} {k : Nat} {i j : Int} {b c : Bool}
theorem eq_int : F__law_equal_r (k + 1) [.int i, .int j] h = .ok (.bl (decide (i = j))) h := by
  rw [eqr_succ]
  simp [M__law_equal, defM, ev_law_is_integer]
theorem lcS_all {g : MG} {me : ME} {env : Ev} : ∀ {ds : List D}, (∀ d ∈ ds, ∃ e, g d env = some e ∧ me e h = .ok (.bl true) h) → lcS g yesM me env ds h = .ok (ds.map fun _ => .bl true) h
  | [], _ => rfl
  | d :: ds, H => by
    obtain ⟨e, h1, h2⟩ := H d (List.mem_cons_self ..)
    have ih := lcS_all (g := g) (me := me) (env := env) (ds := ds) fun d hd => H d (List.mem_cons_of_mem _ hd)
    unfold lcS
    rw [h1]
    dsimp only [yesM, R.bindG_ok]
    rw [if_pos rfl, h2]
    simp only [R.bindG_ok, R.bind]
    rw [ih]
    rfl
theorem bls_true {α : Type} : ∀ {ds : List α}, bls (ds.map fun _ => .bl true) = some (ds.map fun _ => true)
  | [] => rfl
  | d :: ds => by
    show (match D.bl true, bls (ds.map fun _ => .bl true) with
      | .bl b, some bs => some (b :: bs)
      | _, _ => none) = _
    rw [bls_true (ds := ds)]
    rfl
theorem rngD_mem {d : D} {lo : Int} {n : Nat} (hd : d ∈ rngD lo n) : ∃ i : Nat, i < n ∧ d = .int (lo + (i : Int)) := by
  unfold rngD at hd
  obtain ⟨i, h1, h2⟩ := List.mem_map.mp hd
  exact ⟨i, List.mem_range.mp h1, h2.symm⟩
theorem rngD_length {lo : Int} {n : Nat} : (rngD lo n).length = n := by simp [rngD]
theorem rngI1_int {j : Int} {ms : MA} {env : Ev} {h' : IH} {n : Nat} (e : ms env h = .ok [.int j] h') (hj : j.toNat = n) (h0 : 0 ≤ j) (h1 : j ≤ 1000000000) : rngI1 ms env h = .ok (.snap (rngD 0 n)) h' := by
  have h2 : -(2 ^ 62) ≤ j := by omega
  have h3 : j < 2 ^ 62 := by omega
  rw [rngI1_eq, e]
  simp only [R.bindG_ok]
  rw [if_pos (rng_of h2 h3), hj]
theorem rngI1_nat {ms : MA} {env : Ev} {h' : IH} {n : Nat} (e : ms env h = .ok [.int (n : Int)] h') (hn : n ≤ 16777215) : rngI1 ms env h = .ok (.snap (rngD 0 n)) h' :=
  rngI1_int e (Int.toNat_natCast n) (by omega) (by omega)
theorem eq_all {x y : D} {f : MF} {n : Nat} (hz : n ≤ 16777215) (hy : lenF [y] h = .ok (.int (n : Int)) h) (vx : okV h x = .ok x h) (vy : okV h y = .ok y h)
    (H : ∀ i, i < n → ∃ a b, ixM x (.int (i : Int)) h = .ok a h ∧ ixM y (.int (i : Int)) h = .ok b h ∧ f [a, b] h = .ok (.bl true) h) :
    lcM (rngI1 (aconsM (callM lenF (aconsM (varM 1) anilM)) anilM)) [2] (gnameM 2) yesM (callM f (aconsM (binM ixM (varM 0) (varM 2)) (aconsM (binM ixM (varM 1) (varM 2)) anilM))) [some x, some y, none] h = .ok (.ref h.length) (h ++ [.lst ((rngD 0 n).map fun _ => .bl true)]) := by
  have e1 : rngI1 (aconsM (callM lenF (aconsM (varM 1) anilM)) anilM) [some x, some y, none] h = .ok (.snap (rngD 0 n)) h := rngI1_nat (by simp [vy, hy]) hz
  have e2 : lcS (gnameM 2) yesM (callM f (aconsM (binM ixM (varM 0) (varM 2)) (aconsM (binM ixM (varM 1) (varM 2)) anilM))) [some x, some y, none] (rngD 0 n) h = .ok ((rngD 0 n).map fun _ => .bl true) h := by
    refine lcS_all fun d hd => ?_
    obtain ⟨i, hi, rfl⟩ := rngD_mem hd
    obtain ⟨a, b, h1, h2, h3⟩ := H i hi
    refine ⟨_, rfl, ?_⟩
    simp [gnameM, vx, vy, h1, h2, h3]
  unfold lcM
  rw [e1]
  have hm : n ≤ MOST := by unfold MOST; exact hz
  simp only [R.bindG_ok, R.bind, rngD_length, hm, if_true, wipeE, List.set]
  rw [e2]
  simp only [R.bindG_ok, newL_eq]
theorem all_true {α : Type} {ds : List α} : allF [.ref h.length] (h ++ [.lst (ds.map fun _ => .bl true)]) = .ok (.bl true) (h ++ [.lst (ds.map fun _ => .bl true)]) := by
  have e : lisOf (h ++ [IO.lst (ds.map fun _ => .bl true)]) (.ref h.length) = some (ds.map fun _ => .bl true) := by simp [lisOf]
  unfold allF
  simp [e, bls_true]
theorem atI_nat' {xs : List D} {i : Nat} (h1 : i < xs.length) : atI xs (i : Int) = some xs[i] := atI_of (List.getElem?_eq_getElem h1)
theorem eq_ref {n m : Nat} {xs ys : List D} (hn : h[n]? = some (.lst xs)) (hm : h[m]? = some (.lst ys)) (hl : xs.length = ys.length) (hz : ys.length ≤ 16777215) (H : ∀ i (h1 : i < xs.length) (h2 : i < ys.length), F__law_equal_r k [xs[i], ys[i]] h = .ok (.bl true) h) : F__law_equal_r (k + 1) [.ref n, .ref m] h = .ok (.bl true) h := by
  rw [eqr_succ]
  have e := eq_all (h := h) (x := .ref n) (y := .ref m) (f := F__law_equal_r k) (n := ys.length) hz (lenF_ref hm) rfl rfl fun i hi => ⟨xs[i], ys[i], by rw [ixM_ref hn]; simp [atI_nat' (xs := xs) (i := i) (by omega)], by rw [ixM_ref hm]; simp [atI_nat' hi], H i _ hi⟩
  have e2 := all_true (h := h) (ds := rngD 0 ys.length)
  simp [M__law_equal, defM, tyN_ref hn, tyN_ref hm, lenF_ref hn, lenF_ref hm, hl, e, e2]
  exact trunc_app rfl
theorem zip_of {α β : Type} {P : α → β → Prop} {xs : List α} {ys : List β} (H : ∀ p ∈ xs.zip ys, P p.1 p.2) (i : Nat) (h1 : i < xs.length) (h2 : i < ys.length) : P xs[i] ys[i] := by
  have : (xs[i], ys[i]) ∈ xs.zip ys := by
    have e : (xs.zip ys)[i]'(by simp; omega) = (xs[i], ys[i]) := by simp
    rw [← e]
    exact List.getElem_mem _
  exact H _ this
theorem eq_refZ {n m : Nat} {xs ys : List D} (hn : h[n]? = some (.lst xs)) (hm : h[m]? = some (.lst ys)) (hl : xs.length = ys.length) (hz : ys.length ≤ 16777215) (H : ∀ p ∈ xs.zip ys, F__law_equal_r k [p.1, p.2] h = .ok (.bl true) h) : F__law_equal_r (k + 1) [.ref n, .ref m] h = .ok (.bl true) h := eq_ref hn hm hl hz fun i h1 h2 => zip_of (P := fun x y => F__law_equal_r k [x, y] h = .ok (.bl true) h) H i h1 h2
@[simp] theorem isM_bn {n b : Bool} : isM n (.bl b) .non h = .ok (.bl n) h := rfl
theorem three {h : IH} (e : h.length = 3) : ∃ a b c, h = [a, b, c] := by
  match h, e with
  | [a, b, c], _ => exact ⟨a, b, c, rfl⟩
end
end Zc
/-! C2D: rationals drawn. -/
namespace Zc
open PySem L2 Z Q
structure Drawn (m : Nat) (h : IH) (s : Nat) (h' : IH) : Prop where
  st : Strm m h' s
  len : h'.length = h.length
  keep : ∀ i, i ≠ s → h'[i]? = h[i]?
theorem Drew.dr {n : Nat} {h h' : IH} {s : Nat} (w : Drew n h s h') : Drawn (n + 1) h s h' := ⟨w.st, w.len, w.keep⟩
theorem Drawn.trans {n m : Nat} {h h' h'' : IH} {s : Nat} (w : Drawn n h s h') (v : Drawn m h' s h'') : Drawn m h s h'' := ⟨v.st, v.len.trans w.len, fun i hi => (v.keep i hi).trans (w.keep i hi)⟩
theorem Drawn.get {n : Nat} {h h' : IH} {s : Nat} (w : Drawn n h s h') {i : Nat} {o : IO} (e : h[i]? = some o) (ne : i ≠ s) : h'[i]? = some o := (w.keep i ne).trans e
end Zc
set_option exponentiation.threshold 10
/-! C3L: square roots, fields, elements. -/
namespace Zc
open PySem L2 Z Q
/-! ### squares -/
def IsSq (n : Int) : Prop := ∃ k : Int, k * k = n
open Classical in
noncomputable def sq (n : Int) : Bool := decide (IsSq n)
theorem sq_iff {n : Int} : sq n = true ↔ IsSq n := by simp [sq]
theorem sq_root {n r : Int} (h0 : 0 ≤ r) (h1 : r * r ≤ n) (h2 : n < (r + 1) * (r + 1)) : decide (r * r = n) = sq n := by
  have : (r * r = n) ↔ IsSq n := by
    refine ⟨fun h => ⟨r, h⟩, fun ⟨k, hk⟩ => ?_⟩
    have key : ∀ j : Int, 0 ≤ j → j * j = n → r * r = n := fun j hj e => by
      have a1 : j ≤ r := by
        by_cases c : j ≤ r
        · exact c
        · have := Int.mul_le_mul (show r + 1 ≤ j by omega) (show r + 1 ≤ j by omega) (by omega) hj
          omega
      have a2 : r ≤ j := by
        by_cases c : r ≤ j
        · exact c
        · have h3 := Int.mul_le_mul (show j + 1 ≤ r by omega) (show j + 1 ≤ r by omega) (by omega) h0
          have h4 : (j + 1) * (j + 1) = j * j + j + j + 1 := by rw [Int.add_mul, Int.mul_add]; omega
          omega
      have : j = r := by omega
      rw [← this, e]
    by_cases c : 0 ≤ k
    · exact key k c hk
    · exact key (-k) (by omega) (by rw [Int.neg_mul_neg]; exact hk)
  simp [sq, this]
theorem two_sq : ∀ (k m : Nat), m * m = 2 * (k * k) → k = 0 := by
  intro k
  induction k using Nat.strongRecOn with
  | ind k ih =>
    intro m h
    by_cases c : k = 0
    · exact c
    · have hm : m % 2 = 0 := by
        rcases Nat.mod_two_eq_zero_or_one m with z | z
        · exact z
        · have : (m * m) % 2 = 1 := by rw [Nat.mul_mod, z]
          omega
      obtain ⟨a, rfl⟩ : ∃ a, m = 2 * a := ⟨m / 2, by omega⟩
      have h2 : k * k = 2 * (a * a) := by
        have : 2 * a * (2 * a) = 2 * (2 * (a * a)) := by ac_rfl
        omega
      have ha : a < k := by
        by_cases q : a < k
        · exact q
        · have := Nat.mul_le_mul (show k ≤ a by omega) (show k ≤ a by omega)
          have : 0 < k * k := Nat.mul_pos (by omega) (by omega)
          omega
      have h3 := ih a ha k h2
      rw [h3] at h2
      rcases Nat.mul_eq_zero.mp (show k * k = 0 from h2) with z | z <;> exact z
theorem not_sq2 {k : Int} (hk : 0 < k * k) : ¬ IsSq (k * k * 2) := fun ⟨m, hm⟩ => by
  have h1 : m.natAbs * m.natAbs = 2 * (k.natAbs * k.natAbs) := by
    rw [← Int.natAbs_mul, ← Int.natAbs_mul, hm, Int.natAbs_mul, Nat.mul_comm]
    rfl
  have := two_sq _ _ h1
  have : k = 0 := by omega
  subst this
  simp at hk
section
variable {h : IH} {n : Int}
/-! ### the program's root -/
theorem ev_is_square (h0 : 0 ≤ n) (hb : Bit 8000 n) : F_is_square [.int n] h = .ok (.bl (sq n)) h := by
  have l : n.toNat.log2 < 13000 := by
    have := hb.log (by decide)
    have e : n.toNat = n.natAbs := by omega
    rw [e]; omega
  have e1 : isqrtF [.int n] h = .ok (.int ((Float64.isqrt n.toNat : Nat) : Int)) h := if_pos ⟨h0, l⟩
  obtain ⟨a1, a2⟩ := Float64.isqrt_spec n.toNat
  generalize Float64.isqrt n.toNat = r at *
  have a3 : (r : Int) * r ≤ n := by
    have : ((r * r : Nat) : Int) ≤ (n.toNat : Int) := by exact_mod_cast a1
    rw [Int.toNat_of_nonneg h0] at this
    simpa using this
  have a4 : n < ((r : Int) + 1) * (r + 1) := by
    have : ((n.toNat : Nat) : Int) < (((r + 1) * (r + 1) : Nat) : Int) := by exact_mod_cast a2
    rw [Int.toNat_of_nonneg h0] at this
    simpa using this
  have rb : Bit 8000 (r : Int) := hb.le (by
    have : r ≤ r * r := Nat.le_mul_self r
    omega)
  have e2 := mulM_int (h := h) (small_of rb rb)
  have e3 := sq_root (Int.natCast_nonneg r) a3 a4
  simp [F_is_square, M_is_square, defM, e1, e2, e3]
/-! ### the law's root -/
noncomputable def rootB1 : MS := seqM (ifM (btestM (binM gtM (binM mulM (varM 2) (varM 2)) (varM 0))) brkM nextM)
  (setM 2 (binM mulM (varM 2) (constM (.int 2))))
noncomputable def rootB2 : MS := seqM (ifM (btestM (binM ltM (binM subM (varM 2) (varM 1)) (constM (.int 2)))) brkM nextM)
  (seqM (setM 4 (binM fdivM (binM addM (varM 1) (varM 2)) (constM (.int 2))))
  (ifM (btestM (binM gtM (binM mulM (varM 4) (varM 4)) (varM 0))) (setM 2 (varM 4)) (setM 1 (varM 4))))
theorem bit2 : Bit 4 2 := Bit.pos (by decide) (by decide)
theorem bitpow {j : Nat} (hj : j ≤ 3500) : Bit 3501 ((2 : Int) ^ j) := Bit.pos (Int.le_of_lt (Int.pow_pos (by decide))) (by
  have : (2 : Nat) ^ j < 2 ^ 3501 := Nat.pow_lt_pow_right (by decide) (by omega)
  exact_mod_cast this)
theorem root_t1 {lo hi : Int} {d : D} {ds : List D} {x y : Option D} (hb : Bit 3501 hi) : forS (gnameM 3) rootB1 (d :: ds) [some (.int n), some (.int lo), some (.int hi), x, y] h =
    if n < hi * hi then .nx [some (.int n), some (.int lo), some (.int hi), some d, y] h else forS (gnameM 3) rootB1 ds [some (.int n), some (.int lo), some (.int (hi * 2)), some d, y] h := by
  have e1 := fun h => mulM_int (h := h) (small_of hb hb)
  have e2 := fun h => mulM_int (h := h) (small_of hb bit2)
  rw [forS_cons, turnM_eq]
  by_cases c : n < hi * hi
  · simp [rootB1, e1, c]
  · simp [rootB1, e1, e2, c]
theorem root_l1 {y : Option D} : ∀ (t j : Nat) (ds : List D) (x : Option D), n < 2 ^ (j + t) * 2 ^ (j + t) → t < ds.length → j + t ≤ 3500 →
    ∃ (j' : Nat) (x' : Option D), j' ≤ j + t ∧ forS (gnameM 3) rootB1 ds [some (.int n), some (.int 0), some (.int (2 ^ j)), x, y] h = .nx [some (.int n), some (.int 0), some (.int (2 ^ j')), x', y] h ∧ n < 2 ^ j' * 2 ^ j'
  | t, j, [], x, _, hl, _ => by simp at hl
  | t, j, d :: ds, x, hn, hl, hj => by
    rw [root_t1 (bitpow (by omega))]
    by_cases c : n < 2 ^ j * 2 ^ j
    · rw [if_pos c]
      exact ⟨j, some d, by omega, rfl, c⟩
    · rw [if_neg c]
      match t, hn, hl, hj with
      | 0, hn, _, _ => exact absurd hn c
      | t + 1, hn, hl, hj =>
        have e : (2 : Int) ^ j * 2 = 2 ^ (j + 1) := (Int.pow_succ 2 j).symm
        rw [e]
        obtain ⟨j', x', a1, a2, a3⟩ := root_l1 t (j + 1) ds (some d) (by rw [show j + 1 + t = j + (t + 1) by omega]; exact hn) (by simp at hl; omega) (by omega)
        exact ⟨j', x', by omega, a2, a3⟩
theorem root_t2 {lo hi : Int} {d : D} {ds : List D} {x y : Option D} (c : 2 ≤ hi - lo) (hm : Bit 3510 ((lo + hi) / 2)) : forS (gnameM 3) rootB2 (d :: ds) [some (.int n), some (.int lo), some (.int hi), x, y] h =
    if n < (lo + hi) / 2 * ((lo + hi) / 2) then forS (gnameM 3) rootB2 ds [some (.int n), some (.int lo), some (.int ((lo + hi) / 2)), some d, some (.int ((lo + hi) / 2))] h
      else forS (gnameM 3) rootB2 ds [some (.int n), some (.int ((lo + hi) / 2)), some (.int hi), some d, some (.int ((lo + hi) / 2))] h := by
  have e1 := fun h => mulM_int (h := h) (small_of hm hm)
  have e2 := fun x h => fdivM_pos (x := x) (y := 2) (h := h) (by decide) bit2
  have c' : ¬ hi - lo < 2 := by omega
  rw [forS_cons, turnM_eq]
  by_cases q : n < (lo + hi) / 2 * ((lo + hi) / 2)
  · simp [rootB2, e1, e2, c', q]
  · simp [rootB2, e1, e2, c', q]
theorem root_t0 {lo hi : Int} {d : D} {ds : List D} {x y : Option D} (c : hi - lo < 2) : forS (gnameM 3) rootB2 (d :: ds) [some (.int n), some (.int lo), some (.int hi), x, y] h = .nx [some (.int n), some (.int lo), some (.int hi), some d, y] h := by
  rw [forS_cons, turnM_eq]
  simp [rootB2, c]
theorem root_l2 : ∀ (t : Nat) (ds : List D) (lo hi : Int) (x y : Option D), hi - lo = 2 ^ t → lo * lo ≤ n → n < hi * hi → 0 ≤ lo → hi ≤ 2 ^ 3500 → t < ds.length →
    ∃ (r hi' : Int) (x' y' : Option D), forS (gnameM 3) rootB2 ds [some (.int n), some (.int lo), some (.int hi), x, y] h = .nx [some (.int n), some (.int r), some (.int hi'), x', y'] h ∧ 0 ≤ r ∧ r * r ≤ n ∧ n < (r + 1) * (r + 1) ∧ r ≤ 2 ^ 3500
  | t, [], _, _, _, _, _, _, _, _, _, hl => by simp at hl
  | 0, d :: ds, lo, hi, x, y, hg, h1, h2, h0, hh, _ => by
    rw [root_t0 (by rw [hg]; decide)]
    have : hi = lo + 1 := by
      have : (2 : Int) ^ 0 = 1 := rfl
      omega
    subst this
    exact ⟨lo, _, _, _, rfl, h0, h1, h2, by omega⟩
  | t + 1, d :: ds, lo, hi, x, y, hg, h1, h2, h0, hh, hl => by
    have p : (2 : Int) ^ (t + 1) = 2 ^ t * 2 := Int.pow_succ 2 t
    have pp : (0 : Int) < 2 ^ t := Int.pow_pos (by decide)
    generalize hP : (2 : Int) ^ t = P at *
    have em : (lo + hi) / 2 = lo + P := by omega
    have bm : Bit 3510 ((lo + hi) / 2) := by
      rw [em]
      exact Bit.pos (by omega) (by
        have : (2 : Int) ^ 3500 < 2 ^ 3510 := by
          have : (2 : Nat) ^ 3500 < 2 ^ 3510 := Nat.pow_lt_pow_right (by decide) (by decide)
          exact_mod_cast this
        omega)
    rw [root_t2 (by omega) bm]
    split
    · rename_i c
      rw [em] at c ⊢
      exact root_l2 t ds lo (lo + P) (some d) (some (.int (lo + P))) (by rw [hP]; omega) h1 c h0 (by omega) (by simp at hl; omega)
    · rename_i c
      rw [em] at c ⊢
      exact root_l2 t ds (lo + P) hi (some d) (some (.int (lo + P))) (by rw [hP]; omega) (by omega) h2 (by omega) hh (by simp at hl; omega)
theorem ev_law_root (h0 : 0 ≤ n) (hb : n < 2 ^ 3400 * 2 ^ 3400) : ∃ r : Int, F__law_root [.int n] h = .ok (.int r) h ∧ 0 ≤ r ∧ r * r ≤ n ∧ n < (r + 1) * (r + 1) ∧ r ≤ 2 ^ 3500 := by
  obtain ⟨j, x1, j1, e1, j2⟩ := root_l1 (n := n) (h := h) (y := none) 3400 0 (rngD 0 4000) none (by simpa using hb) (by rw [rngD_length]; decide) (by decide)
  have hh : (2 : Int) ^ j ≤ 2 ^ 3500 := by
    have : (2 : Nat) ^ j ≤ 2 ^ 3500 := Nat.pow_le_pow_right (by decide) (by omega)
    exact_mod_cast this
  obtain ⟨r, hi', x2, y2, e2, a1, a2, a3, a4⟩ := root_l2 (n := n) (h := h) j (rngD 0 4000) 0 (2 ^ j) x1 none (by omega) (by simpa using h0) j2 (by decide) hh (by rw [rngD_length]; omega)
  refine ⟨r, ?_, a1, a2, a3, a4⟩
  have er : ∀ env : Ev, rngI1 (aconsM (constM (.int 4000)) anilM) env h = .ok (.snap (rngD 0 4000)) h := fun env => rngI1_int (j := 4000) (n := 4000) (by simp) (by decide) (by decide) (by decide)
  rw [Int.pow_zero] at e1
  unfold rootB1 at e1
  unfold rootB2 at e2
  simp only [F__law_root, M__law_root, defM, seqM_eq, setM_eq, constM_eq, List.map, List.length, List.cons_append, List.nil_append, List.append, List.replicate, List.getElem?_cons_zero, List.getElem?_cons_succ, R.bindG_ok, List.set, forM_eq, er, e1, e2, retM_eq, varM_eq, finM_rt, trunc_same]
theorem ev_law_is_square (h0 : 0 ≤ n) (hb : n < 2 ^ 3400 * 2 ^ 3400) : F__law_is_square [.int n] h = .ok (.bl (sq n)) h := by
  obtain ⟨r, e, a1, a2, a3, a4⟩ := ev_law_root (h := h) h0 hb
  have rb : Bit 3502 r := Bit.pos a1 (by
    have : (2 : Int) ^ 3500 < 2 ^ 3502 := by
      have : (2 : Nat) ^ 3500 < 2 ^ 3502 := Nat.pow_lt_pow_right (by decide) (by decide)
      exact_mod_cast this
    omega)
  have e2 := mulM_int (h := h) (small_of rb rb)
  have e3 := sq_root a1 a2 a3
  simp [F__law_is_square, M__law_is_square, defM, e, e2, e3]
end
end Zc
set_option exponentiation.threshold 100
/-! C3D: fields and elements drawn. -/
namespace Zc
open PySem L2 Z Q
/-- draws with new objects -/
structure Grew (m : Nat) (h : IH) (s : Nat) (h' : IH) : Prop where
  st : Strm m h' s
  len : h.length ≤ h'.length
  keep : ∀ i, i < h.length → i ≠ s → h'[i]? = h[i]?
theorem Drew.gr {n : Nat} {h h' : IH} {s : Nat} (w : Drew n h s h') : Grew (n + 1) h s h' := ⟨w.st, Nat.le_of_eq w.len.symm, fun i _ ne => w.keep i ne⟩
theorem Drawn.gr {n : Nat} {h h' : IH} {s : Nat} (w : Drawn n h s h') : Grew n h s h' := ⟨w.st, Nat.le_of_eq w.len.symm, fun i _ ne => w.keep i ne⟩
theorem Grew.trans {n m : Nat} {h h' h'' : IH} {s : Nat} (w : Grew n h s h') (v : Grew m h' s h'') : Grew m h s h'' := ⟨v.st, Nat.le_trans w.len v.len, fun i hi ne => (v.keep i (Nat.lt_of_lt_of_le hi w.len) ne).trans (w.keep i hi ne)⟩
theorem Grew.get {n : Nat} {h h' : IH} {s : Nat} (w : Grew n h s h') {i : Nat} {o : IO} (e : h[i]? = some o) (ne : i ≠ s) : h'[i]? = some o := (w.keep i (List.getElem?_eq_some_iff.mp e).1 ne).trans e
theorem Grew.app {n : Nat} {h : IH} {g : IH} {s : Nat} (w : Strm n h s) : Grew n h s (h ++ g) := ⟨w.app, by simp, fun i hi _ => List.getElem?_append_left hi⟩
theorem Grew.mono {n m : Nat} {h h' : IH} {s : Nat} (w : Grew n h s h') (c : n ≤ m) : Grew m h s h' := ⟨w.st.mono c, w.len, w.keep⟩
theorem Grew.refl {n : Nat} {h : IH} {s : Nat} (w : Strm n h s) : Grew n h s h := ⟨w, Nat.le_refl _, fun _ _ _ => rfl⟩
theorem lt45 {f : Int} (h : f < 2 ^ 45) : f < 2 ^ 3400 * 2 ^ 3400 := by
  have : (2 : Int) ^ 45 ≤ 2 ^ 3400 * 2 ^ 3400 := by
    rw [← Int.pow_add]
    have : (2 : Nat) ^ 45 ≤ 2 ^ (3400 + 3400) := Nat.pow_le_pow_right (by decide) (by decide)
    exact_mod_cast this
  omega
/-- an element -/
def de (x y : Rat) : D := .tup [dr x, dr y]
end Zc
/-! C4L: elements' arithmetic. -/
namespace Zc
open PySem L2 Z Q
section
variable {h g : IH} {f : Int} {x y u v : Rat} {k l m : Nat}
@[simp] theorem okV_de : okV h (de x y) = .ok (de x y) h := rfl
@[simp] theorem tyN_de : tyN h (de x y) = some "tuple" := rfl
@[simp] theorem ixM_de0 : ixM (de x y) (.int 0) h = .ok (dr x) h := by simp [de]
@[simp] theorem ixM_de1 : ixM (de x y) (.int 1) h = .ok (dr y) h := by simp [de]
@[simp] theorem lenF_de : lenF [de x y] h = .ok (.int 2) h := rfl
@[simp] theorem lenF_dr : lenF [dr x] h = .ok (.int 2) h := rfl
theorem de_is : D.tup [dr x, dr y] = de x y := rfl
theorem dr_int : D.tup [.int f, .int 1] = dr (f : Rat) := rfl
theorem bit1 {k : Nat} (hk : 0 < k) : Bit k 1 := by
  have : (2 : Nat) ^ 1 ≤ 2 ^ k := Nat.pow_le_pow_right (by decide) (by omega)
  show (1 : Int).natAbs < 2 ^ k
  have e : (1 : Int).natAbs = 1 := rfl
  omega
theorem RB.int (hf : Bit k f) (hk : 0 < k := by decide) : RB k (f : Rat) := ⟨hf, bit1 hk⟩
theorem RB.zero (hk : 0 < k := by decide) : RB k 0 := ⟨by show (0 : Int).natAbs < 2 ^ k; exact Nat.two_pow_pos k, bit1 hk⟩
@[simp] theorem app0 : (h ++ g)[h.length]? = g[0]? := by rw [List.getElem?_append_right (by omega)]; simp
@[simp] theorem app1 : (h ++ g)[h.length + 1]? = g[1]? := by rw [List.getElem?_append_right (by omega)]; simp
@[simp] theorem app2 : (h ++ g)[h.length + 1 + 1]? = g[2]? := by rw [List.getElem?_append_right (by omega)]; congr 1; omega
@[simp] theorem app3 : (h ++ g)[h.length + 1 + 1 + 1]? = g[3]? := by rw [List.getElem?_append_right (by omega)]; congr 1; omega
def nrm (f : Int) (x y : Rat) : Rat := x * x - f * (y * y)
theorem RB.nrm (hf : Bit m f) (hx : RB k x) (hy : RB k y) (h2 : 0 < m := by decide) : RB (4 * k + m + 1) (nrm f x y) :=
  ((hx.mul hx).sub ((RB.int hf h2).mul (hy.mul hy))).mono (by omega)
end
end Zc
/-! C5L: equality of rationals and elements; quotients. -/
namespace Zc
open PySem L2 Z Q
section
variable {h : IH} {f : Int} {x y u v : Rat} {k l m : Nat}
theorem dec_rat : (decide (x.num = y.num) && decide ((x.den : Int) = (y.den : Int))) = decide (x = y) := by
  have : (x.num = y.num ∧ (x.den : Int) = (y.den : Int)) ↔ x = y := ⟨fun ⟨a, b⟩ => Rat.ext a (by omega), fun e => by subst e; exact ⟨rfl, rfl⟩⟩
  by_cases c : x = y
  · have := this.mpr c
    simp [c]
  · have n := fun z => c (this.mp z)
    simp only [c, decide_false]
    by_cases a : x.num = y.num
    · have b : ¬ (x.den : Int) = (y.den : Int) := fun b => n ⟨a, b⟩
      rw [decide_eq_false b, Bool.and_false]
    · rw [decide_eq_false a, Bool.false_and]
theorem eqB_dr : eqB h (dr x) (dr y) = some (decide (x = y)) := by
  show (if SeqAt.shaped (.tuple [.int x.num, .int x.den]) = true ∧ SeqAt.shaped (.tuple [.int y.num, .int y.den]) = true then some (PyData.eqv (.tuple [.int x.num, .int x.den]) (.tuple [.int y.num, .int y.den])) else none) = _
  rw [if_pos ⟨rfl, rfl⟩, ← dec_rat]
  simp [PyData.eqv, PyData.eqvAll]
  rfl
theorem eqB_de : eqB h (de x y) (de u v) = some (decide (x = u) && decide (y = v)) := by
  show (if SeqAt.shaped (.tuple [.tuple [.int x.num, .int x.den], .tuple [.int y.num, .int y.den]]) = true ∧ SeqAt.shaped (.tuple [.tuple [.int u.num, .int u.den], .tuple [.int v.num, .int v.den]]) = true then some (PyData.eqv (.tuple [.tuple [.int x.num, .int x.den], .tuple [.int y.num, .int y.den]]) (.tuple [.tuple [.int u.num, .int u.den], .tuple [.int v.num, .int v.den]])) else none) = _
  rw [if_pos ⟨rfl, rfl⟩, ← dec_rat, ← dec_rat]
  simp [PyData.eqv, PyData.eqvAll]
  rfl
@[simp] theorem eqM_dr : eqM (dr x) (dr y) h = .ok (.bl (decide (x = y))) h := by unfold eqM; rw [eqB_dr]
@[simp] theorem neM_dr : neM (dr x) (dr y) h = .ok (.bl (!decide (x = y))) h := by unfold neM; rw [eqB_dr]
@[simp] theorem eqM_de : eqM (de x y) (de u v) h = .ok (.bl (decide (x = u) && decide (y = v))) h := by unfold eqM; rw [eqB_de]
@[simp] theorem gtup_de {gs : MGs} {env : Ev} : gtupM 2 gs (de x y) env = gs [dr x, dr y] env := rfl
@[simp] theorem gtup_dr {gs : MGs} {env : Ev} : gtupM 2 gs (dr x) env = gs [.int x.num, .int (x.den : Int)] env := rfl
/-! ### the norm is 0 at 0 alone -/
theorem sq_of_rat {r : Rat} (e : r * r = (f : Rat)) : IsSq f := by
  have e1 : Rat.divInt (r.num * r.num) (r.den * r.den) = Rat.divInt f 1 := by
    rw [← mul_is, e]; exact (Rat.num_divInt_den (f : Rat)).symm
  have e2 := (Rat.divInt_eq_divInt_iff (Int.mul_ne_zero den_ne den_ne) (by decide)).mp e1
  rw [Int.mul_one] at e2
  have cop : Int.gcd (r.den : Int) r.num = 1 := by
    rw [Int.gcd_comm]
    exact r.reduced
  have d1 : (r.den : Int) ∣ r.num * r.num := ⟨f * r.den, by rw [e2]; ac_rfl⟩
  have d2 := dvd_cop d1 cop
  have d3 : (r.den : Int) ∣ 1 := by
    have : (r.den : Int) ∣ (Int.gcd (r.den : Int) r.num : Int) := Int.dvd_coe_gcd (Int.dvd_refl _) d2
    rw [cop] at this
    exact this
  have d4 : (r.den : Int) = 1 := by
    have := Int.eq_one_of_dvd_one (Int.natCast_nonneg _) d3
    exact this
  rw [d4] at e2
  exact ⟨r.num, by rw [e2]; simp⟩
theorem nrm_ne (hf : f = 0 ∨ ¬ IsSq f) (hv : f = 0 → v = 0) (h0 : ¬ (u = 0 ∧ v = 0)) : nrm f u v ≠ 0 := fun z => by
  unfold nrm at z
  rcases hf with hf | hf
  · have := hv hf
    subst this
    have : u * u = 0 := by grind
    have : u = 0 := by grind
    exact h0 ⟨this, rfl⟩
  · by_cases c : v = 0
    · subst c
      have : u * u = 0 := by grind
      have : u = 0 := by grind
      exact h0 ⟨this, rfl⟩
    · exact hf (sq_of_rat (r := u / v) (by grind))
end
end Zc
/-! C6L: signs. -/
namespace Zc
open PySem L2 Z Q
/-- the sign of a whole number -/
def sg (n : Int) : Int := (if 0 < n then 1 else 0) - (if n < 0 then 1 else 0)
theorem sg_pos {n : Int} (h : 0 < n) : sg n = 1 := by unfold sg; rw [if_pos h, if_neg (by omega)]; rfl
theorem sg_neg {n : Int} (h : n < 0) : sg n = -1 := by unfold sg; rw [if_neg (by omega), if_pos h]; rfl
theorem sg_0 : sg 0 = 0 := by rfl
/-- the sign of x + y * the root of f, as the program works it out -/
def pS (f : Int) (x y : Rat) : Int := if sg y.num = 0 ∨ sg x.num = sg y.num then sg x.num else if sg x.num = 0 then sg y.num else sg x.num * sg (nrm f x y).num
section
variable {h : IH} {f n : Int} {x y u v : Rat} {k l m : Nat}
theorem ev_sign : F_sign [.int n] h = .ok (.int (sg n)) h := by
  simp [F_sign, M_sign, defM, sg]
theorem sg_bit : Bit 4 (sg n) := by
  unfold sg
  unfold Bit
  split <;> split <;> decide
theorem sg_mul {a b : Int} (hb : 0 < b) : sg (a * b) = sg a := by
  rcases Int.lt_trichotomy a 0 with c | c | c
  · rw [sg_neg c, sg_neg (Int.mul_neg_of_neg_of_pos c hb)]
  · subst c; simp
  · rw [sg_pos c, sg_pos (Int.mul_pos c hb)]
theorem sg_n {a : Int} : sg (-a) = -sg a := by unfold sg; split <;> split <;> split <;> split <;> omega
end
end Zc
/-! K11P: what a row of rationals is in the end: from some place on above a positive number, or below any. Plain. -/
namespace Zc
open PySem L2 Z Q
abbrev RSq := Nat → Rat
def PsQ (f : RSq) : Prop := ∃ δ : Rat, 0 < δ ∧ ∃ K : Nat, ∀ k, K ≤ k → δ ≤ f k
def NuQ (f : RSq) : Prop := ∀ ε : Rat, 0 < ε → ∃ K : Nat, ∀ k, K ≤ k → -ε ≤ f k ∧ f k ≤ ε
def BdQ (f : RSq) : Prop := ∃ M : Rat, 0 < M ∧ ∀ k, -M ≤ f k ∧ f k ≤ M
section
variable {f g : RSq} {x y a b c d M : Rat}
theorem half_pos' (h : 0 < a) : 0 < a / 2 := by grind
theorem mul_lo (h1 : a ≤ x) (h2 : b ≤ y) (ha : 0 ≤ a) (hb : 0 ≤ b) : a * b ≤ x * y := by
  have p1 := Rat.mul_nonneg (a := x - a) (b := y) (by grind) (by grind)
  have p2 := Rat.mul_nonneg (a := a) (b := y - b) ha (by grind)
  grind
theorem mul_p (ha : 0 < a) (hb : 0 < b) : 0 < a * b := Rat.mul_pos ha hb
theorem div_p (ha : 0 < a) (hb : 0 < b) : 0 < a / b := by
  rw [Rat.div_def]
  exact Rat.mul_pos ha (Rat.inv_pos.mpr hb)
theorem div_mul_c (hb : b ≠ 0) : a / b * b = a := by grind
theorem PsQ.add (p : PsQ f) (q : PsQ g) : PsQ (fun k => f k + g k) := by
  obtain ⟨a, a0, A, ha⟩ := p
  obtain ⟨b, b0, B, hb⟩ := q
  refine ⟨a + b, by grind, A + B, fun k hk => ?_⟩
  have h1 := ha k (by omega)
  have h2 := hb k (by omega)
  grind
theorem PsQ.of_nul (p : PsQ f) (q : NuQ fun k => f k - g k) : PsQ g := by
  obtain ⟨a, a0, A, ha⟩ := p
  obtain ⟨B, hb⟩ := q (a / 2) (half_pos' a0)
  refine ⟨a / 2, half_pos' a0, A + B, fun k hk => ?_⟩
  have h1 := ha k (by omega)
  have h2 := hb k (by omega)
  grind
theorem PsQ.mul (p : PsQ f) (q : PsQ g) : PsQ (fun k => f k * g k) := by
  obtain ⟨a, a0, A, ha⟩ := p
  obtain ⟨b, b0, B, hb⟩ := q
  exact ⟨a * b, mul_p a0 b0, A + B, fun k hk => mul_lo (ha k (by omega)) (hb k (by omega)) (by grind) (by grind)⟩
theorem le_of_mul (hd : d ≤ x * y) (d0 : 0 < d) (y0 : 0 ≤ y) (yM : y ≤ M) (M0 : 0 < M) : d / M ≤ x := by
  by_cases c : d / M ≤ x
  · exact c
  · exfalso
    have e : d / M * M = d := div_mul_c (by grind)
    rcases Rat.le_total (a := 0) (b := x) with s | s
    · have p1 := Rat.mul_nonneg (a := x) (b := M - y) s (by grind)
      have p2 := Rat.mul_pos (a := d / M - x) (b := M) (by grind) M0
      grind
    · have p1 := Rat.mul_nonneg (a := -x) (b := y) (by grind) y0
      grind
theorem PsQ.of_mul (p : PsQ fun k => f k * g k) (g0 : ∀ k, 0 ≤ g k) (q : BdQ g) : PsQ f := by
  obtain ⟨a, a0, A, ha⟩ := p
  obtain ⟨M, M0, hM⟩ := q
  exact ⟨a / M, div_p a0 M0, A, fun k hk => le_of_mul (ha k hk) a0 (g0 k) (hM k).2 M0⟩
theorem PsQ.of_mul_pos (p : PsQ fun k => f k * g k) (g0 : PsQ g) (q : BdQ g) : PsQ f := by
  obtain ⟨a, a0, A, ha⟩ := p
  obtain ⟨b, b0, B, hb⟩ := g0
  obtain ⟨M, M0, hM⟩ := q
  exact ⟨a / M, div_p a0 M0, A + B, fun k hk => le_of_mul (ha k (by omega)) a0 (by have := hb k (by omega); grind) (hM k).2 M0⟩
theorem NuQ.add (p : NuQ f) (q : NuQ g) : NuQ (fun k => f k + g k) := fun e e0 => by
  obtain ⟨A, ha⟩ := p (e / 2) (half_pos' e0)
  obtain ⟨B, hb⟩ := q (e / 2) (half_pos' e0)
  refine ⟨A + B, fun k hk => ?_⟩
  have h1 := ha k (by omega)
  have h2 := hb k (by omega)
  grind
theorem NuQ.neg (p : NuQ f) : NuQ (fun k => -f k) := fun e e0 => by
  obtain ⟨A, ha⟩ := p e e0
  refine ⟨A, fun k hk => ?_⟩
  have h1 := ha k hk
  grind
theorem NuQ.zero : NuQ (fun _ => 0) := fun e e0 => ⟨0, fun k _ => by grind⟩
theorem NuQ.eq (p : NuQ f) (h : ∀ k, f k = g k) : NuQ g := fun e e0 => by
  obtain ⟨A, ha⟩ := p e e0
  exact ⟨A, fun k hk => by rw [← h k]; exact ha k hk⟩
theorem PsQ.eq (p : PsQ f) (h : ∀ k, f k = g k) : PsQ g := by
  obtain ⟨a, a0, A, ha⟩ := p
  exact ⟨a, a0, A, fun k hk => by rw [← h k]; exact ha k hk⟩
theorem NuQ.mul (p : NuQ f) (q : BdQ g) : NuQ (fun k => f k * g k) := fun e e0 => by
  obtain ⟨M, M0, hM⟩ := q
  obtain ⟨A, ha⟩ := p (e / M) (div_p e0 M0)
  have em : e / M * M = e := div_mul_c (by grind)
  refine ⟨A, fun k hk => ?_⟩
  have h1 := ha k hk
  have h2 := hM k
  generalize e / M = t at em h1
  have p1 := Rat.mul_nonneg (a := t - f k) (b := M + g k) (by grind) (by grind)
  have p2 := Rat.mul_nonneg (a := t + f k) (b := M - g k) (by grind) (by grind)
  have p3 := Rat.mul_nonneg (a := t - f k) (b := M - g k) (by grind) (by grind)
  have p4 := Rat.mul_nonneg (a := t + f k) (b := M + g k) (by grind) (by grind)
  grind
theorem NuQ.of_mul (p : NuQ fun k => f k * g k) (q : PsQ g) : NuQ f := fun e e0 => by
  obtain ⟨b, b0, B, hb⟩ := q
  obtain ⟨A, ha⟩ := p (e * b / 2) (half_pos' (mul_p e0 b0))
  refine ⟨A + B, fun k hk => ?_⟩
  have h1 := ha k (by omega)
  have h2 := hb k (by omega)
  have eb := mul_p e0 b0
  by_cases c : -e ≤ f k ∧ f k ≤ e
  · exact c
  · exfalso
    rcases Rat.le_total (a := f k) (b := 0) with s | s
    · have c2 : f k < -e := by grind
      have := mul_lo (a := e) (x := -f k) (b := b) (y := g k) (by grind) h2 (by grind) (by grind)
      grind
    · have c2 : e < f k := by grind
      have := mul_lo (a := e) (x := f k) (b := b) (y := g k) (by grind) h2 (by grind) (by grind)
      grind
theorem BdQ.add (p : BdQ f) (q : BdQ g) : BdQ (fun k => f k + g k) := by
  obtain ⟨a, a0, ha⟩ := p
  obtain ⟨b, b0, hb⟩ := q
  refine ⟨a + b, by grind, fun k => ?_⟩
  have h1 := ha k
  have h2 := hb k
  grind
theorem BdQ.neg (p : BdQ f) : BdQ (fun k => -f k) := by
  obtain ⟨a, a0, ha⟩ := p
  refine ⟨a, a0, fun k => ?_⟩
  have h1 := ha k
  grind
theorem BdQ.mul (p : BdQ f) (q : BdQ g) : BdQ (fun k => f k * g k) := by
  obtain ⟨a, a0, ha⟩ := p
  obtain ⟨b, b0, hb⟩ := q
  refine ⟨a * b, mul_p a0 b0, fun k => ?_⟩
  have h1 := ha k
  have h2 := hb k
  have p1 := Rat.mul_nonneg (a := a - f k) (b := b + g k) (by grind) (by grind)
  have p2 := Rat.mul_nonneg (a := a + f k) (b := b - g k) (by grind) (by grind)
  have p3 := Rat.mul_nonneg (a := a - f k) (b := b - g k) (by grind) (by grind)
  have p4 := Rat.mul_nonneg (a := a + f k) (b := b + g k) (by grind) (by grind)
  grind
theorem BdQ.const : BdQ (fun _ => x) := by
  rcases Rat.le_total (a := x) (b := 0) with s | s
  · exact ⟨1 - x, by grind, fun k => by grind⟩
  · exact ⟨1 + x, by grind, fun k => by grind⟩
theorem ps_nu (p : PsQ f) (q : NuQ f) : False := by
  obtain ⟨a, a0, A, ha⟩ := p
  obtain ⟨B, hb⟩ := q (a / 2) (half_pos' a0)
  have h1 := ha (A + B) (by omega)
  have h2 := hb (A + B) (by omega)
  grind
theorem ps_ng (p : PsQ f) (q : PsQ fun k => -f k) : False := by
  obtain ⟨a, a0, A, ha⟩ := p
  obtain ⟨b, b0, B, hb⟩ := q
  have h1 := ha (A + B) (by omega)
  have h2 := hb (A + B) (by omega)
  grind
/-- the sign of a row -/
def IsS (s : Int) (f : RSq) : Prop := (s = 1 ∧ PsQ f) ∨ (s = -1 ∧ PsQ fun k => -f k) ∨ (s = 0 ∧ NuQ f)
theorem IsS.uniq {s t : Int} (p : IsS s f) (q : IsS t f) : s = t := by
  rcases p with ⟨rfl, p⟩ | ⟨rfl, p⟩ | ⟨rfl, p⟩ <;> rcases q with ⟨rfl, q⟩ | ⟨rfl, q⟩ | ⟨rfl, q⟩ <;> first | rfl | skip
  · exact (ps_ng p q).elim
  · exact (ps_nu p q).elim
  · exact (ps_ng q p).elim
  · exact (ps_nu p q.neg).elim
  · exact (ps_nu q p).elim
  · exact (ps_nu q p.neg).elim
theorem IsS.eq {s : Int} (p : IsS s f) (h : ∀ k, f k = g k) : IsS s g := by
  rcases p with ⟨e, p⟩ | ⟨e, p⟩ | ⟨e, p⟩
  · exact .inl ⟨e, p.eq h⟩
  · exact .inr (.inl ⟨e, p.eq fun k => by rw [h k]⟩)
  · exact .inr (.inr ⟨e, p.eq h⟩)
theorem IsS.near {s : Int} (p : IsS s f) (h : NuQ fun k => f k - g k) : IsS s g := by
  rcases p with ⟨e, p⟩ | ⟨e, p⟩ | ⟨e, p⟩
  · exact .inl ⟨e, p.of_nul h⟩
  · exact .inr (.inl ⟨e, p.of_nul (h.neg.eq fun k => by grind)⟩)
  · exact .inr (.inr ⟨e, (p.add h.neg).eq fun k => by grind⟩)
theorem IsS.neg {s : Int} (p : IsS s f) : IsS (-s) fun k => -f k := by
  rcases p with ⟨rfl, p⟩ | ⟨rfl, p⟩ | ⟨rfl, p⟩
  · exact .inr (.inl ⟨rfl, p.eq fun k => by grind⟩)
  · exact .inl ⟨rfl, p⟩
  · exact .inr (.inr ⟨rfl, p.neg⟩)
theorem PsQ.const (h : 0 < x) : PsQ fun _ => x := ⟨x, h, 0, fun _ _ => by grind⟩
theorem num_p (h : 0 < x.num) : 0 < x := by
  have h1 : 0 ≤ x := Rat.num_nonneg.mp (by omega)
  have h2 : x ≠ 0 := fun z => by rw [Rat.num_eq_zero.mpr z] at h; omega
  grind
theorem num_n (h : x.num < 0) : x < 0 := by
  have := num_p (x := -x) (by rw [Rat.neg_num]; omega)
  grind
theorem is_const : IsS (sg x.num) fun _ => x := by
  rcases Int.lt_trichotomy x.num 0 with c | c | c
  · rw [sg_neg c]
    exact .inr (.inl ⟨rfl, .const (by have := num_n c; grind)⟩)
  · rw [c, sg_0]
    exact .inr (.inr ⟨rfl, NuQ.zero.eq fun _ => (Rat.num_eq_zero.mp c).symm⟩)
  · rw [sg_pos c]
    exact .inl ⟨rfl, .const (num_p c)⟩
theorem IsS.mul {s t : Int} (p : IsS s f) (q : IsS t g) (bf : BdQ f) (bg : BdQ g) : IsS (s * t) fun k => f k * g k := by
  rcases p with ⟨rfl, p⟩ | ⟨rfl, p⟩ | ⟨rfl, p⟩
  · rcases q with ⟨rfl, q⟩ | ⟨rfl, q⟩ | ⟨rfl, q⟩
    · exact .inl ⟨rfl, p.mul q⟩
    · exact .inr (.inl ⟨rfl, (p.mul q).eq fun k => by grind⟩)
    · exact .inr (.inr ⟨rfl, (q.mul bf).eq fun k => by grind⟩)
  · rcases q with ⟨rfl, q⟩ | ⟨rfl, q⟩ | ⟨rfl, q⟩
    · exact .inr (.inl ⟨rfl, (p.mul q).eq fun k => by grind⟩)
    · exact .inl ⟨rfl, (p.mul q).eq fun k => by grind⟩
    · exact .inr (.inr ⟨rfl, (q.mul bf).eq fun k => by grind⟩)
  · exact .inr (.inr ⟨by rw [Int.zero_mul], p.mul bg⟩)
theorem IsS.three {s : Int} (p : IsS s f) : s = 1 ∨ s = -1 ∨ s = 0 := by
  rcases p with ⟨e, _⟩ | ⟨e, _⟩ | ⟨e, _⟩
  · exact .inl e
  · exact .inr (.inl e)
  · exact .inr (.inr e)
/-- sums: one is nothing, or both have the same sign -/
theorem IsS.add {s t : Int} (p : IsS s f) (q : IsS t g) (h : s = 0 ∨ t = 0 ∨ s = t) : IsS (sg (s + t)) fun k => f k + g k := by
  rcases p with ⟨rfl, p⟩ | ⟨rfl, p⟩ | ⟨rfl, p⟩ <;> rcases q with ⟨rfl, q⟩ | ⟨rfl, q⟩ | ⟨rfl, q⟩
  · exact .inl ⟨rfl, p.add q⟩
  · omega
  · exact .inl ⟨rfl, p.of_nul (q.neg.eq fun k => by grind)⟩
  · omega
  · exact .inr (.inl ⟨rfl, (p.add q).eq fun k => by grind⟩)
  · exact .inr (.inl ⟨rfl, p.of_nul (q.eq fun k => by grind)⟩)
  · exact .inl ⟨rfl, q.of_nul (p.neg.eq fun k => by grind)⟩
  · exact .inr (.inl ⟨rfl, q.of_nul (p.eq fun k => by grind)⟩)
  · exact .inr (.inr ⟨rfl, p.add q⟩)
/-- sums: signs that are opposite, and the sign of the squares' difference -/
theorem add_pos {w : Int} (p : PsQ f) (q : PsQ fun k => -g k) (bf : BdQ f) (bg : BdQ g) (e : IsS w fun k => f k * f k - g k * g k) : IsS w fun k => f k + g k := by
  have ps : PsQ fun k => f k - g k := (p.add q).eq fun k => by grind
  have bd : BdQ fun k => f k - g k := by
    obtain ⟨M, M0, h⟩ := bf.add bg.neg
    exact ⟨M, M0, fun k => by have := h k; grind⟩
  rcases e with ⟨rfl, e⟩ | ⟨rfl, e⟩ | ⟨rfl, e⟩
  · exact .inl ⟨rfl, PsQ.of_mul_pos (e.eq fun k => by grind) ps bd⟩
  · exact .inr (.inl ⟨rfl, PsQ.of_mul_pos (f := fun k => -(f k + g k)) (e.eq fun k => by grind) ps bd⟩)
  · exact .inr (.inr ⟨rfl, NuQ.of_mul (e.eq fun k => by grind) ps⟩)
theorem IsS.opp {s t w : Int} (p : IsS s f) (q : IsS t g) (h : ¬ (s = 0 ∨ t = 0 ∨ s = t)) (bf : BdQ f) (bg : BdQ g) (e : IsS w fun k => f k * f k - g k * g k) : IsS (s * w) fun k => f k + g k := by
  rcases p with ⟨rfl, p⟩ | ⟨rfl, p⟩ | ⟨rfl, p⟩ <;> rcases q with ⟨rfl, q⟩ | ⟨rfl, q⟩ | ⟨rfl, q⟩ <;> first | omega | skip
  · rw [Int.one_mul]
    exact add_pos p q bf bg e
  · have := add_pos (f := fun k => -f k) (g := fun k => -g k) p (q.eq fun k => by grind) bf.neg bg.neg (e.eq fun k => by grind)
    have := this.neg
    rw [show (-1 : Int) * w = -w by omega]
    exact this.eq fun k => by grind
end
end Zc
/-! K11Q: square roots as rows of rationals; the signs that the program works out. Plain. -/
namespace Zc
open PySem L2 Z Q
theorem fl_ex : ∀ n : Nat, ∃ m : Nat, m * m ≤ n ∧ n < (m + 1) * (m + 1)
  | 0 => ⟨0, by simp, by simp⟩
  | n + 1 => by
    obtain ⟨m, h1, h2⟩ := fl_ex n
    by_cases c : (m + 1) * (m + 1) ≤ n + 1
    · refine ⟨m + 1, c, ?_⟩
      have : (m + 1 + 1) * (m + 1 + 1) = (m + 1) * (m + 1) + 2 * m + 3 := by grind
      omega
    · exact ⟨m, by omega, by omega⟩
noncomputable def fl (n : Nat) : Nat := Classical.choose (fl_ex n)
theorem fl_spec (n : Nat) : fl n * fl n ≤ n ∧ n < (fl n + 1) * (fl n + 1) := Classical.choose_spec (fl_ex n)
noncomputable def rt (d : Nat) : RSq := fun k => ((fl (d * (2 ^ k * 2 ^ k)) : Nat) : Rat) / ((2 ^ k : Nat) : Rat)
theorem pw_pos (k : Nat) : (0 : Rat) < ((2 ^ k : Nat) : Rat) := Rat.natCast_lt_natCast.mpr (Nat.two_pow_pos k)
theorem pw_ge (k : Nat) : ((k : Nat) : Rat) ≤ ((2 ^ k : Nat) : Rat) := Rat.natCast_le_natCast.mpr (Nat.le_of_lt Nat.lt_two_pow_self)
theorem arch (x : Rat) : ∃ K : Nat, x ≤ (K : Rat) := by
  refine ⟨x.ceil.toNat, ?_⟩
  have h1 : x ≤ (x.ceil : Rat) := Rat.le_ceil
  have h2 : ((x.ceil : Int) : Rat) ≤ ((x.ceil.toNat : Int) : Rat) := Rat.intCast_le_intCast.mpr (by omega)
  have h3 : ((x.ceil.toNat : Int) : Rat) = ((x.ceil.toNat : Nat) : Rat) := Rat.intCast_natCast _
  grind
/-- a number over the powers of two -/
theorem nu_pw {c : Rat} : NuQ fun k => c / ((2 ^ k : Nat) : Rat) := fun e e0 => by
  obtain ⟨A, ha⟩ := arch (c / e)
  obtain ⟨B, hb⟩ := arch (-c / e)
  refine ⟨A + B, fun k hk => ?_⟩
  have p0 := pw_pos k
  have pk := pw_ge k
  show -e ≤ c / ((2 ^ k : Nat) : Rat) ∧ c / ((2 ^ k : Nat) : Rat) ≤ e
  have ak : ((A : Nat) : Rat) ≤ (k : Rat) := Rat.natCast_le_natCast.mpr (by omega)
  have bk : ((B : Nat) : Rat) ≤ (k : Rat) := Rat.natCast_le_natCast.mpr (by omega)
  generalize ((2 ^ k : Nat) : Rat) = P at p0 pk
  have e1 : c / e * e = c := div_mul_c (by grind)
  have e2 : -c / e * e = -c := div_mul_c (by grind)
  have e3 : c / P * P = c := div_mul_c (by grind)
  generalize c / e = s at e1 ha
  generalize -c / e = t at e2 hb
  generalize c / P = z at e3
  have m1 := Rat.mul_nonneg (a := P - s) (b := e) (by grind) (by grind)
  have m2 := Rat.mul_nonneg (a := P - t) (b := e) (by grind) (by grind)
  constructor
  · rcases Rat.le_total (a := -e) (b := z) with q | q
    · exact q
    · by_cases w : z = -e
      · grind
      · have := Rat.mul_pos (a := -e - z) (b := P) (by grind) p0
        grind
  · rcases Rat.le_total (a := z) (b := e) with q | q
    · exact q
    · by_cases w : z = e
      · grind
      · have := Rat.mul_pos (a := z - e) (b := P) (by grind) p0
        grind
theorem rt_is (d k : Nat) : 0 ≤ rt d k ∧ rt d k * rt d k ≤ (d : Rat) ∧ (d : Rat) ≤ (rt d k + 1 / ((2 ^ k : Nat) : Rat)) * (rt d k + 1 / ((2 ^ k : Nat) : Rat)) := by
  obtain ⟨h1, h2⟩ := fl_spec (d * (2 ^ k * 2 ^ k))
  have p0 := pw_pos k
  have c1 := Rat.natCast_le_natCast.mpr h1
  have c2 := Rat.natCast_lt_natCast.mpr h2
  have f0 : (0 : Rat) ≤ ((fl (d * (2 ^ k * 2 ^ k)) : Nat) : Rat) := Rat.natCast_le_natCast.mpr (Nat.zero_le _)
  rw [Rat.natCast_mul, Rat.natCast_mul, Rat.natCast_mul] at c1
  rw [Rat.natCast_mul, Rat.natCast_mul, Rat.natCast_mul, Rat.natCast_add] at c2
  unfold rt
  generalize ((fl (d * (2 ^ k * 2 ^ k)) : Nat) : Rat) = F at c1 c2 f0
  generalize ((2 ^ k : Nat) : Rat) = P at c1 c2 p0
  generalize (d : Rat) = D at c1 c2
  have e1 : F / P * P = F := div_mul_c (by grind)
  have e2 : 1 / P * P = 1 := div_mul_c (by grind)
  generalize F / P = r at e1
  generalize 1 / P = i at e2
  have one : ((1 : Nat) : Rat) = 1 := rfl
  rw [one] at c2
  clear h1 h2 one
  subst e1
  have pp := Rat.mul_pos (a := P) (b := P) p0 p0
  refine ⟨?_, ?_, ?_⟩
  · rcases Rat.le_total (a := 0) (b := r) with q | q
    · exact q
    · by_cases w : r = 0
      · grind
      · have := Rat.mul_pos (a := -r) (b := P) (by grind) p0
        grind
  · rcases Rat.le_total (a := r * r) (b := D) with q | q
    · exact q
    · by_cases w : r * r = D
      · grind
      · have := Rat.mul_pos (a := r * r - D) (b := P * P) (by grind) pp
        have z : (r * r - D) * (P * P) = r * P * (r * P) - D * (P * P) := by grind
        grind
  · rcases Rat.le_total (a := D) (b := (r + i) * (r + i)) with q | q
    · exact q
    · by_cases w : (r + i) * (r + i) = D
      · grind
      · have := Rat.mul_pos (a := D - (r + i) * (r + i)) (b := P * P) (by grind) pp
        have z : (D - (r + i) * (r + i)) * (P * P) = D * (P * P) - (r * P + i * P) * (r * P + i * P) := by grind
        rw [e2] at z
        grind
theorem rt_bd (d : Nat) : ∀ k, 0 ≤ rt d k ∧ rt d k ≤ (d : Rat) + 1 := fun k => by
  obtain ⟨h1, h2, _⟩ := rt_is d k
  refine ⟨h1, ?_⟩
  have d0 : (0 : Rat) ≤ (d : Rat) := Rat.natCast_le_natCast.mpr (Nat.zero_le _)
  rcases Rat.le_total (a := rt d k) (b := (d : Rat) + 1) with q | q
  · exact q
  · have := mul_lo (a := (d : Rat) + 1) (x := rt d k) (b := 1) (y := rt d k) q (by grind) (by grind) (by grind)
    grind
theorem rt_b (d : Nat) : BdQ (rt d) := by
  have d0 : (0 : Rat) ≤ (d : Rat) := Rat.natCast_le_natCast.mpr (Nat.zero_le _)
  refine ⟨(d : Rat) + 1, by grind, fun k => ?_⟩
  have := rt_bd d k
  grind
theorem rt_nu (d : Nat) : NuQ fun k => rt d k * rt d k - (d : Rat) := fun e e0 => by
  obtain ⟨K, hK⟩ := nu_pw (c := 2 * ((d : Rat) + 1) + 1) e e0
  refine ⟨K, fun k hk => ?_⟩
  obtain ⟨h1, h2, h3⟩ := rt_is d k
  have hb := (rt_bd d k).2
  have d0 : (0 : Rat) ≤ (d : Rat) := Rat.natCast_le_natCast.mpr (Nat.zero_le _)
  have q : -e ≤ (2 * ((d : Rat) + 1) + 1) / ((2 ^ k : Nat) : Rat) ∧ (2 * ((d : Rat) + 1) + 1) / ((2 ^ k : Nat) : Rat) ≤ e := hK k hk
  have p0 := pw_pos k
  have p1 : (1 : Rat) ≤ ((2 ^ k : Nat) : Rat) := Rat.natCast_le_natCast.mpr (Nat.two_pow_pos k)
  generalize ((2 ^ k : Nat) : Rat) = P at q p0 p1 h3
  have e2 : 1 / P * P = 1 := div_mul_c (by grind)
  have e3 : (2 * ((d : Rat) + 1) + 1) / P = (2 * ((d : Rat) + 1) + 1) * (1 / P) := by grind
  rw [e3] at q
  have i0 : 0 < 1 / P := div_p (by grind) p0
  generalize 1 / P = i at e2 q h3 i0
  have i1 : i ≤ 1 := by
    have := Rat.mul_nonneg (a := i) (b := P - 1) (by grind) (by grind)
    grind
  show -e ≤ rt d k * rt d k - (d : Rat) ∧ rt d k * rt d k - (d : Rat) ≤ e
  clear e2 e3 hK
  generalize rt d k = r at h1 h2 h3 hb
  generalize (d : Rat) = D at h2 h3 hb d0 q
  have m1 := Rat.mul_nonneg (a := D + 1 - r) (b := i) (by grind) (by grind)
  have m2 := Rat.mul_nonneg (a := i) (b := 1 - i) (by grind) (by grind)
  grind
theorem nu_mul2 {f g : RSq} (h1 : NuQ f) (h2 : BdQ g) : NuQ fun k => g k * f k := (h1.mul h2).eq fun k => by grind
theorem nul_sq {f : RSq} (h : NuQ fun k => f k * f k) : NuQ f := fun e e0 => by
  obtain ⟨K, hK⟩ := h (e * e) (mul_p e0 e0)
  refine ⟨K, fun k hk => ?_⟩
  have q := hK k hk
  by_cases c : -e ≤ f k ∧ f k ≤ e
  · exact c
  · exfalso
    rcases Rat.le_total (a := f k) (b := 0) with s | s
    · have := Rat.mul_pos (a := -f k - e) (b := -f k + e) (by grind) (by grind)
      grind
    · have := Rat.mul_pos (a := f k - e) (b := f k + e) (by grind) (by grind)
      grind
/-- a row that is a root of a natural number -/
structure IsR (d : Nat) (f : RSq) : Prop where
  n : ∀ k, 0 ≤ f k
  b : BdQ f
  s : NuQ fun k => f k * f k - (d : Rat)
theorem rt_r (d : Nat) : IsR d (rt d) := ⟨fun k => (rt_bd d k).1, rt_b d, rt_nu d⟩
theorem IsR.sg {d : Nat} {f : RSq} (h : IsR d f) : IsS (sg (d : Int)) f := by
  rcases Nat.eq_zero_or_pos d with z | z
  · subst z
    exact .inr (.inr ⟨rfl, nul_sq (h.s.eq fun k => by show _ - (0 : Rat) = _; grind)⟩)
  · rw [sg_pos (by omega)]
    have d0 : (0 : Rat) < (d : Rat) := Rat.natCast_lt_natCast.mpr z
    exact .inl ⟨rfl, PsQ.of_mul ((PsQ.const d0).of_nul (h.s.neg.eq fun k => by grind)) h.n h.b⟩
theorem IsR.mul {d e : Nat} {f g : RSq} (h : IsR d f) (i : IsR e g) : IsR (d * e) fun k => f k * g k where
  n := fun k => Rat.mul_nonneg (h.n k) (i.n k)
  b := h.b.mul i.b
  s := by
    have a := (h.s.mul (i.b.mul i.b)).add (nu_mul2 (g := fun _ => (d : Rat)) i.s .const)
    refine a.eq fun k => ?_
    rw [Rat.natCast_mul]
    grind
theorem sg_mul' {a b : Int} : sg (a * b) = sg a * sg b := by
  rcases Int.lt_trichotomy b 0 with c | c | c
  · have := sg_mul (a := a) (b := -b) (by omega)
    rw [Int.mul_neg, sg_n] at this
    rw [sg_neg c]
    omega
  · subst c
    rw [Int.mul_zero, sg_0, Int.mul_zero]
  · rw [sg_mul c, sg_pos c, Int.mul_one]
end Zc
/-! K11R: what the program's signs are. Plain. -/
namespace Zc
open PySem L2 Z Q
def sS (f : Nat) (x y : Rat) : Int := if f = 0 then sg x.num else pS (f : Int) x y
def trS (u : Rat) (d : Nat) (v : Rat) (e : Nat) : Int :=
  if sg (u.num * d) = 0 ∨ sg (v.num * e) = 0 ∨ sg (u.num * d) = sg (v.num * e) then sg (sg (u.num * d) + sg (v.num * e))
  else sg (u.num * d) * sg ((d : Rat) * (u * u) - (e : Rat) * (v * v)).num
def toS (r u : Rat) (d : Nat) (v : Rat) (e : Nat) : Int :=
  if sg r.num = 0 ∨ trS u d v e = 0 ∨ sg r.num = trS u d v e then sg (sg r.num + trS u d v e)
  else sg r.num * sS (d * e) (r * r - ((d : Rat) * (u * u) + (e : Rat) * (v * v))) (-2 * (u * v))
section
variable {f d e : Nat} {x y r u v : Rat} {γ α β : RSq}
theorem mulR (h : IsR f γ) : IsS (sg (y.num * f)) fun k => y * γ k := by
  rw [sg_mul']
  exact (is_const (x := y)).mul h.sg .const h.b
theorem intc (f : Nat) : (((f : Int) : Int) : Rat) = ((f : Nat) : Rat) := Rat.intCast_natCast f
theorem sS_is (h : IsR f γ) : IsS (sS f x y) fun k => x + y * γ k := by
  unfold sS
  by_cases z : f = 0
  · subst z
    rw [if_pos rfl]
    have p := is_const (x := x)
    have n0 : NuQ γ := nul_sq (h.s.eq fun k => by show _ - (0 : Rat) = _; grind)
    exact p.near ((nu_mul2 (g := fun _ => -y) n0 .const).eq fun k => by grind)
  · rw [if_neg z]
    have p := is_const (x := x)
    have q := mulR (y := y) h
    have e1 : sg (y.num * (f : Int)) = sg y.num := by rw [sg_mul', sg_pos (show (0 : Int) < f by omega), Int.mul_one]
    rw [e1] at q
    unfold pS
    by_cases c : sg y.num = 0 ∨ sg x.num = sg y.num
    · rw [if_pos c]
      have := p.add q (by rcases c with c | c <;> simp [c])
      have e2 : sg (sg x.num + sg y.num) = sg x.num := by
        rcases p.three with a | a | a <;> rcases c with c | c <;> first | (rw [c, a]; rfl) | (rw [← c, a]; rfl)
      rw [e2] at this
      exact this
    · rw [if_neg c]
      by_cases c2 : sg x.num = 0
      · rw [if_pos c2]
        have := p.add q (.inl c2)
        have e2 : sg (sg x.num + sg y.num) = sg y.num := by
          rw [c2, Int.zero_add]
          rcases q.three with a | a | a <;> rw [a] <;> rfl
        rw [e2] at this
        exact this
      · rw [if_neg c2]
        refine p.opp q (by omega) .const (BdQ.mul .const h.b) ?_
        have w := is_const (x := nrm (f : Int) x y)
        refine w.near ((nu_mul2 (g := fun _ => y * y) h.s .const).eq fun k => ?_)
        unfold nrm
        rw [intc]
        grind
theorem trS_is (h : IsR d α) (i : IsR e β) : IsS (trS u d v e) fun k => u * α k + v * β k := by
  have p := mulR (y := u) h
  have q := mulR (y := v) i
  unfold trS
  by_cases c : sg (u.num * d) = 0 ∨ sg (v.num * e) = 0 ∨ sg (u.num * d) = sg (v.num * e)
  · rw [if_pos c]
    exact p.add q c
  · rw [if_neg c]
    refine p.opp q c (BdQ.mul .const h.b) (BdQ.mul .const i.b) ?_
    have w := is_const (x := (d : Rat) * (u * u) - (e : Rat) * (v * v))
    refine w.near (((nu_mul2 (g := fun _ => -(u * u)) h.s .const).add (nu_mul2 (g := fun _ => v * v) i.s .const)).eq fun k => ?_)
    grind
theorem toS_is (h : IsR d α) (i : IsR e β) : IsS (toS r u d v e) fun k => r + (u * α k + v * β k) := by
  have p := is_const (x := r)
  have q := trS_is (u := u) (v := v) h i
  have bP : BdQ fun k => u * α k + v * β k := (BdQ.mul .const h.b).add (BdQ.mul .const i.b)
  unfold toS
  by_cases c : sg r.num = 0 ∨ trS u d v e = 0 ∨ sg r.num = trS u d v e
  · rw [if_pos c]
    exact p.add q c
  · rw [if_neg c]
    refine p.opp q c .const bP ?_
    have w := sS_is (x := r * r - ((d : Rat) * (u * u) + (e : Rat) * (v * v))) (y := -2 * (u * v)) (h.mul i)
    refine w.near (((nu_mul2 (g := fun _ => u * u) h.s .const).add (nu_mul2 (g := fun _ => v * v) i.s .const)).eq fun k => ?_)
    grind
end
end Zc
/-! K11S: two numbers that are not the same stand apart. Plain. -/
namespace Zc
open PySem L2 Z Q
section
variable {f g : RSq} {r u v x : Rat} {d e Q : Nat} {α β : RSq}
def sm118 : Rat := 1 / ((2 ^ 118 : Nat) : Rat)
/-- a whole number that is not 0, over Q -/
theorem int_ge {i : Int} (hi : i ≠ 0) (h : x * (Q : Rat) = (i : Rat)) : 1 ≤ x * (Q : Rat) ∨ x * (Q : Rat) ≤ -1 := by
  rw [h]
  rcases Int.lt_or_lt_of_ne hi with c | c
  · right
    have : ((i : Int) : Rat) ≤ ((-1 : Int) : Rat) := Rat.intCast_le_intCast.mpr (by omega)
    exact this
  · left
    have : ((1 : Int) : Rat) ≤ ((i : Int) : Rat) := Rat.intCast_le_intCast.mpr (by omega)
    exact this
/-- a row near a constant and small: the constant is small -/
theorem const_small {s : Rat} (s0 : 0 < s) (n : NuQ fun k => f k - x) (h : ∃ K : Nat, ∀ k, K ≤ k → -s ≤ f k ∧ f k ≤ s) : -(2 * s) ≤ x ∧ x ≤ 2 * s := by
  obtain ⟨A, ha⟩ := n s s0
  obtain ⟨B, hb⟩ := h
  have h1 : -s ≤ f (A + B) - x ∧ f (A + B) - x ≤ s := ha (A + B) (by omega)
  have h2 := hb (A + B) (by omega)
  grind
theorem sq_small {s : Rat} (s0 : 0 < s) (h : -s ≤ x ∧ x ≤ s) : -(s * s) ≤ x * x ∧ x * x ≤ s * s := by
  have p1 := Rat.mul_nonneg (a := s - x) (b := s + x) (by grind) (by grind)
  have p2 : 0 ≤ x * x := by
    rcases Rat.le_total (a := 0) (b := x) with q | q
    · exact Rat.mul_nonneg q q
    · have := Rat.mul_nonneg (a := -x) (b := -x) (by grind) (by grind)
      grind
  have p3 := mul_p s0 s0
  grind
/-- |x Q| at least 1 and Q small: x is not tiny -/
theorem not_tiny {i : Int} (hi : i ≠ 0) (h : x * (Q : Rat) = (i : Rat)) (hQ : Q ≤ 2 ^ 19) {s : Rat} (hs : s * ((2 ^ 19 : Nat) : Rat) < 1) (s0 : 0 < s) (b : -s ≤ x ∧ x ≤ s) : False := by
  have q0 : (0 : Rat) ≤ (Q : Rat) := Rat.natCast_le_natCast.mpr (Nat.zero_le _)
  have q1 : (Q : Rat) ≤ ((2 ^ 19 : Nat) : Rat) := Rat.natCast_le_natCast.mpr hQ
  generalize ((2 ^ 19 : Nat) : Rat) = T at hs q1
  have p1 := Rat.mul_nonneg (a := s - x) (b := (Q : Rat)) (by grind) q0
  have p2 := Rat.mul_nonneg (a := s + x) (b := (Q : Rat)) (by grind) q0
  have p3 := Rat.mul_nonneg (a := s) (b := T - (Q : Rat)) (by grind) (by grind)
  rcases int_ge hi h with c | c <;> grind
theorem sq_nn : 0 ≤ x * x := by
  rcases Rat.le_total (a := 0) (b := x) with q | q
  · exact Rat.mul_nonneg q q
  · have := Rat.mul_nonneg (a := -x) (b := -x) (by grind) (by grind)
    grind
theorem sq_back {s : Rat} (s0 : 0 < s) (h : x * x ≤ s * s) : -s ≤ x ∧ x ≤ s := by
  by_cases c : -s ≤ x ∧ x ≤ s
  · exact c
  · exfalso
    rcases Rat.le_total (a := x) (b := 0) with q | q
    · have := Rat.mul_pos (a := -x - s) (b := -x + s) (by grind) (by grind)
      grind
    · have := Rat.mul_pos (a := x - s) (b := x + s) (by grind) (by grind)
      grind
theorem int_ne {i : Int} (hQ : 0 < Q) (hv : v * (Q : Rat) = (i : Rat)) (v0 : v ≠ 0) : i ≠ 0 := fun q => by
  rw [q] at hv
  have hv : v * (Q : Rat) = 0 := hv
  have : (0 : Rat) < (Q : Rat) := Rat.natCast_lt_natCast.mpr hQ
  rcases Rat.mul_eq_zero.mp hv with q | q
  · exact v0 q
  · grind
def sm100 : Rat := 1 / ((2 ^ 100 : Nat) : Rat)
/-- a root times a number, near nothing beside E: too great to be tiny -/
theorem half_gap {i : Int} (Q0 : 0 < Q) (hv : v * (Q : Rat) = (i : Rat)) (hQ : Q ≤ 2 ^ 19) (hr : IsR e β) (n : NuQ fun k => f k - 2 * v * β k) (bf : BdQ f) (ne : ¬ NuQ f) (sm : ∃ K : Nat, ∀ k, K ≤ k → -sm118 ≤ f k ∧ f k ≤ sm118) : False := by
  have s0 : 0 < sm118 := by decide +kernel
  have b2 : BdQ fun k => 2 * v * β k := BdQ.mul .const hr.b
  have n2 : NuQ fun k => f k * f k - 4 * (v * v) * (e : Rat) := by
    have a := (n.mul (bf.add b2)).add (nu_mul2 (g := fun _ => 4 * (v * v)) hr.s .const)
    exact a.eq fun k => by grind
  by_cases z : v = 0 ∨ e = 0
  · refine ne (nul_sq (n2.eq fun k => ?_))
    rcases z with z | z
    · rw [z]; grind
    · rw [z]; show _ - 4 * (v * v) * (0 : Rat) = _; grind
  · have v0 : v ≠ 0 := fun q => z (.inl q)
    have e1 : ((1 : Nat) : Rat) ≤ (e : Rat) := Rat.natCast_le_natCast.mpr (by omega)
    have e1 : (1 : Rat) ≤ (e : Rat) := e1
    have cs := const_small (mul_p s0 s0) n2 (by
      obtain ⟨K, hK⟩ := sm
      exact ⟨K, fun k hk => sq_small s0 (hK k hk)⟩)
    have vv := sq_nn (x := v)
    have p1 := Rat.mul_nonneg (a := v * v) (b := (e : Rat) - 1) vv (by grind)
    have t0 : 0 < sm100 := by decide +kernel
    have t1 : 2 * (sm118 * sm118) ≤ sm100 * sm100 := by decide +kernel
    have bk := sq_back (x := v) t0 (by grind)
    exact not_tiny (int_ne Q0 hv v0) hv hQ (s := sm100) (by decide +kernel) t0 bk
theorem NuQ.const {x : Rat} (h : NuQ fun _ => x) : x = 0 := by
  by_cases c : x = 0
  · exact c
  · exfalso
    rcases Rat.le_total (a := 0) (b := x) with q | q
    · exact ps_nu (f := fun _ => x) (PsQ.const (by grind)) h
    · exact ps_nu (f := fun _ => -x) (PsQ.const (by grind)) h.neg
theorem mul3_le {a b c s M : Rat} (s0 : 0 < s) (M0 : 0 < M) (ha : -s ≤ a ∧ a ≤ s) (hb : -M ≤ b ∧ b ≤ M) : -(s * M) ≤ a * b ∧ a * b ≤ s * M := by
  have p1 := Rat.mul_nonneg (a := s - a) (b := M + b) (by grind) (by grind)
  have p2 := Rat.mul_nonneg (a := s + a) (b := M - b) (by grind) (by grind)
  have p3 := Rat.mul_nonneg (a := s - a) (b := M - b) (by grind) (by grind)
  have p4 := Rat.mul_nonneg (a := s + a) (b := M + b) (by grind) (by grind)
  grind
theorem IsS.nz {s : Int} (p : IsS s f) (h : s ≠ 0) : ¬ NuQ f := fun n => h (p.uniq (.inr (.inr ⟨rfl, n⟩)))
def BM (f : RSq) : Prop := ∀ k, -8192 ≤ f k ∧ f k ≤ 8192
theorem BM.bd (h : BM f) : BdQ f := ⟨8192, by decide +kernel, h⟩
/-- E is nothing, if it is tiny -/
theorem gap {R U V : Int} (Q0 : 0 < Q) (hQ : Q ≤ 2 ^ 19) (hR : r * (Q : Rat) = (R : Rat)) (hU : u * (Q : Rat) = (U : Rat)) (hV : v * (Q : Rat) = (V : Rat)) (h : IsR d α) (i : IsR e β)
    (b1 : BM fun k => r + (u * α k + v * β k)) (b2 : BM fun k => r + (-u * α k + -v * β k)) (b3 : BM fun k => r + (u * α k + -v * β k)) (b4 : BM fun k => r + (-u * α k + v * β k))
    (sm : ∃ K : Nat, ∀ k, K ≤ k → -sm118 ≤ r + (u * α k + v * β k) ∧ r + (u * α k + v * β k) ≤ sm118) : toS r u d v e = 0 := by
  have s0 : 0 < sm118 := by decide +kernel
  have p1 := toS_is (r := r) (u := u) (v := v) h i
  have p2 := toS_is (r := r) (u := -u) (v := -v) h i
  have p3 := toS_is (r := r) (u := u) (v := -v) h i
  have p4 := toS_is (r := r) (u := -u) (v := v) h i
  by_cases c1 : toS r u d v e = 0
  · exact c1
  · exfalso
    have ne := p1.nz c1
    by_cases c2 : toS r (-u) d (-v) e = 0
    · rw [c2] at p2
      have n2 : NuQ fun k => r + (-u * α k + -v * β k) := by rcases p2 with ⟨z, _⟩ | ⟨z, _⟩ | ⟨_, z⟩ <;> first | exact z | omega
      have n3 : NuQ fun k => (r + (u * α k + v * β k)) - 2 * r := n2.neg.eq fun k => by grind
      have r0 : r ≠ 0 := fun z => ne (n3.eq fun k => by rw [z]; grind)
      have cs := const_small s0 n3 sm
      exact not_tiny (int_ne Q0 hR r0) hR hQ (s := sm118) (by decide +kernel) s0 (by grind)
    by_cases c3 : toS r u d (-v) e = 0
    · rw [c3] at p3
      have n2 : NuQ fun k => r + (u * α k + -v * β k) := by rcases p3 with ⟨z, _⟩ | ⟨z, _⟩ | ⟨_, z⟩ <;> first | exact z | omega
      exact half_gap Q0 hV hQ i (n2.eq fun k => by grind) b1.bd ne sm
    by_cases c4 : toS r (-u) d v e = 0
    · rw [c4] at p4
      have n2 : NuQ fun k => r + (-u * α k + v * β k) := by rcases p4 with ⟨z, _⟩ | ⟨z, _⟩ | ⟨_, z⟩ <;> first | exact z | omega
      exact half_gap Q0 hU hQ h (n2.eq fun k => by grind) b1.bd ne sm
    have q := ((p1.mul p2 b1.bd b2.bd).mul (p3.mul p4 b3.bd b4.bd) (b1.bd.mul b2.bd) (b3.bd.mul b4.bd))
    generalize hN : (r * r - (d : Rat) * (u * u) - (e : Rat) * (v * v)) * (r * r - (d : Rat) * (u * u) - (e : Rat) * (v * v)) - 4 * (u * u) * (v * v) * ((d : Rat) * (e : Rat)) = N
    have nn : NuQ fun k => (r + (u * α k + v * β k)) * (r + (-u * α k + -v * β k)) * ((r + (u * α k + -v * β k)) * (r + (-u * α k + v * β k))) - N := by
      have X : BdQ fun k => u * u * (α k * α k) + v * v * (β k * β k) := (BdQ.mul .const (h.b.mul h.b)).add (BdQ.mul .const (i.b.mul i.b))
      have D1 : NuQ fun k => u * u * (α k * α k - (d : Rat)) + v * v * (β k * β k - (e : Rat)) := (nu_mul2 (g := fun _ => u * u) h.s .const).add (nu_mul2 (g := fun _ => v * v) i.s .const)
      have m1 := D1.mul (X.add (.const (x := (d : Rat) * (u * u) + (e : Rat) * (v * v) - 2 * (r * r))))
      have AB : NuQ fun k => (α k * α k - (d : Rat)) * (β k * β k) + (d : Rat) * (β k * β k - (e : Rat)) := (h.s.mul (i.b.mul i.b)).add (nu_mul2 (g := fun _ => (d : Rat)) i.s .const)
      have m2 := nu_mul2 (g := fun _ => -4 * (u * u) * (v * v)) AB .const
      refine (m1.add m2).eq fun k => ?_
      rw [← hN]
      generalize α k = a
      generalize β k = b
      generalize (d : Rat) = D
      generalize (e : Rat) = E
      grind
    have qN := q.near nn
    have N0 : N ≠ 0 := fun z => by
      have : (toS r u d v e * toS r (-u) d (-v) e) * (toS r u d (-v) e * toS r (-u) d v e) = 0 := qN.uniq (.inr (.inr ⟨rfl, by rw [z]; exact .zero⟩))
      rcases Int.mul_eq_zero.mp this with z | z <;> rcases Int.mul_eq_zero.mp z with z | z <;> omega
    have cs := const_small (s := sm118 * 8192 * (8192 * 8192)) (by decide +kernel) nn (by
      obtain ⟨K, hK⟩ := sm
      have M0 : (0 : Rat) < 8192 := by decide +kernel
      exact ⟨K, fun k hk => mul3_le (c := 0) (by decide +kernel) (by decide +kernel) (mul3_le (c := 0) s0 M0 (hK k hk) (b2 k)) (mul3_le (c := 0) M0 M0 (b3 k) (b4 k))⟩)
    have hJ : N * ((Q * Q * (Q * Q) : Nat) : Rat) = (((R * R - d * (U * U) - e * (V * V)) * (R * R - d * (U * U) - e * (V * V)) - 4 * (U * U) * (V * V) * (d * e) : Int) : Rat) := by
      simp only [Rat.natCast_mul, Rat.intCast_sub, Rat.intCast_mul, Rat.intCast_natCast, ← hR, ← hU, ← hV]
      have four : (((4 : Int) : Int) : Rat) = 4 := rfl
      rw [four, ← hN]
      generalize (Q : Rat) = T
      generalize (d : Rat) = D
      generalize (e : Rat) = E
      grind
    have Q4 : 0 < Q * Q * (Q * Q) := Nat.mul_pos (Nat.mul_pos Q0 Q0) (Nat.mul_pos Q0 Q0)
    have J0 := int_ne Q4 hJ N0
    have QL : Q * Q * (Q * Q) ≤ 2 ^ 19 * 2 ^ 19 * (2 ^ 19 * 2 ^ 19) := Nat.mul_le_mul (Nat.mul_le_mul hQ hQ) (Nat.mul_le_mul hQ hQ)
    have q0 : (0 : Rat) ≤ ((Q * Q * (Q * Q) : Nat) : Rat) := Rat.natCast_le_natCast.mpr (Nat.zero_le _)
    have q1 : ((Q * Q * (Q * Q) : Nat) : Rat) ≤ ((2 ^ 19 * 2 ^ 19 * (2 ^ 19 * 2 ^ 19) : Nat) : Rat) := Rat.natCast_le_natCast.mpr QL
    have big : 2 * (sm118 * 8192 * (8192 * 8192)) * ((2 ^ 19 * 2 ^ 19 * (2 ^ 19 * 2 ^ 19) : Nat) : Rat) < 1 := by decide +kernel
    have t0 : 0 < 2 * (sm118 * 8192 * (8192 * 8192)) := by decide +kernel
    have ge := int_ge J0 hJ
    clear hJ QL J0 Q4 nn qN q hN
    generalize ((2 ^ 19 * 2 ^ 19 * (2 ^ 19 * 2 ^ 19) : Nat) : Rat) = T at q1 big
    generalize ((Q * Q * (Q * Q) : Nat) : Rat) = q at q0 q1 ge
    generalize 2 * (sm118 * 8192 * (8192 * 8192)) = t at cs big t0
    have p1 := Rat.mul_nonneg (a := t - N) (b := q) (by grind) q0
    have p2 := Rat.mul_nonneg (a := t + N) (b := q) (by grind) q0
    have p3 := Rat.mul_nonneg (a := t) (b := T - q) (by grind) (by grind)
    rcases ge with c | c <;> grind
end
end Zc
/-! C7L: checks of shapes. -/
namespace Zc
open PySem L2 Z Q
section
variable {h : IH} {f n : Int} {x y : Rat} {a b : Bool} {k : Nat}
theorem isr_dr : F_is_rational [dr x] h = .ok (.bl true) h := by
  have e := ev_is_rational (n := x.num) (d := (x.den : Int)) (h := h)
  have g : Int.gcd x.num (x.den : Int) = 1 := x.reduced
  have p := den_pos' (r := x)
  rw [g, decide_eq_true p] at e
  exact e
theorem num_false {d : D} {s : String} (e : tyN h d = some s) (k1 : kitB s "tuple" = some false) : F_is_number [d] h = .ok (.bl false) h := by
  cases d with
  | xv => cases e
  | _ => simp [F_is_number, M_is_number, defM, e, k1]
end
/-! ### all over a tuple of three -/
theorem all3 {h : IH} {f : MF} {c b a : D} {x y z : Bool} (ea : f [c] h = .ok (.bl x) h) (eb : f [b] h = .ok (.bl y) h) (ec : f [a] h = .ok (.bl z) h) (hc : okV h c = .ok c h) (hb : okV h b = .ok b h) (ha : okV h a = .ok a h) {e0 e1 e2 e3 e4 : Option D} :
    lcS (gnameM 5) yesM (callM f (aconsM (varM 5) anilM)) [e0, e1, e2, e3, e4, none] [c, b, a] h = .ok [.bl x, .bl y, .bl z] h := by
  simp [lcS, gnameM, yesM, hc, hb, ha, ea, eb, ec]
/-- what a root must be -/
noncomputable def okR (c b a : Int) : Bool := decide (0 < a) && (decide ((((a.natAbs.gcd b.natAbs).gcd c.natAbs : Nat) : Int) = 1) && (decide (4 * a * c < b * b) && !sq (b * b - 4 * a * c)))
theorem lc_root {h : IH} {s : Str} {c b a w : D} {x y z : Bool} (hc : okV h c = .ok c h) (hb : okV h b = .ok b h) (ha : okV h a = .ok a h) (ec : F_is_integer [c] h = .ok (.bl x) h) (eb : F_is_integer [b] h = .ok (.bl y) h) (ea : F_is_integer [a] h = .ok (.bl z) h) :
    lcM (seqI (binM ixM (varM 0) (constM (.int 1)))) [5] (gnameM 5) yesM (callM F_is_integer (aconsM (varM 5) anilM)) [some (.tup [.str s, .tup [c, b, a], w]), none, none, none, none, none] h = .ok (.ref h.length) (h ++ [.lst [.bl x, .bl y, .bl z]]) := by
  have e1 : seqI (binM ixM (varM 0) (constM (.int 1))) [some (.tup [.str s, .tup [c, b, a], w]), none, none, none, none, none] h = .ok (.snap [c, b, a]) h := by
    simp
  unfold lcM
  rw [e1]
  have hm : [c, b, a].length ≤ MOST := by unfold MOST; simp
  simp only [R.bindG_ok, R.bind, hm, if_true, wipeE, List.set]
  rw [all3 ec eb ea hc hb ha]
  simp only [R.bindG_ok, newL_eq]
theorem all_3 {h : IH} {x y z : Bool} : allF [.ref h.length] (h ++ [.lst [.bl x, .bl y, .bl z]]) = .ok (.bl (x && (y && z))) (h ++ [.lst [.bl x, .bl y, .bl z]]) := by
  have e : lisOf (h ++ [IO.lst [D.bl x, D.bl y, D.bl z]]) (.ref h.length) = some [.bl x, .bl y, .bl z] := by simp [lisOf]
  unfold allF
  simp [e, bls]
theorem inM_01 {h : IH} {w : Int} : inM true (.int w) (.tup [.int 0, .int 1]) h = .ok (.bl (!(decide (w = 0) || decide (w = 1)))) h := by
  have : inT (.int w) (.tup [.int 0, .int 1]) = some (decide (w = 0) || decide (w = 1)) := by
    simp [inT, vOf, vsOf, inV, eqV]
    by_cases c : w = 0
    · subst c; rfl
    · by_cases c2 : w = 1
      · subst c2; rfl
      · have h1 : ¬ 0 = w := fun z => c z.symm
        have h2 : ¬ 1 = w := fun z => c2 z.symm
        simp [c, c2, h1, h2]
  unfold inM
  rw [this]
  rfl
theorem ev_is_root {h : IH} {c b a w : Int} {k : Nat} (bc : Bit k c) (bb : Bit k b) (ba : Bit k a) (hk : 2 * k + 5 ≤ 8000) (hk0 : 0 < k) (hw : w = 0 ∨ w = 1) : F_is_root [.tup [.str "root", .tup [.int c, .int b, .int a], .int w]] h = .ok (.bl (okR c b a)) h := by
  have e1 := lc_root (h := h) (s := "root") (c := .int c) (b := .int b) (a := .int a) (w := .int w) rfl rfl rfl ev_is_integer ev_is_integer ev_is_integer
  have e2 := all_3 (h := h) (x := true) (y := true) (z := true)
  have s1 := fun h => mulM_int (h := h) (small_of bb bb (by omega) hk0 hk0)
  have s2 := fun h => mulM_int (h := h) (small_of (a := 4) (Bit.pos (x := 4) (by decide) (by decide)) ba (by omega) (by decide) hk0)
  have s3 := fun h => mulM_int (h := h) (small_of ((Bit.pos (k := 4) (x := 4) (by decide) (by decide)).mul ba) bc (by omega) (by omega) hk0)
  have hD : Bit 8000 (b * b - 4 * a * c) := (((bb.mul bb).mono (show k + k ≤ 4 + k + k by omega)).sub ((((Bit.pos (k := 4) (x := 4) (by decide) (by decide)).mul ba).mul bc))).mono (by omega)
  have hw' : (decide (w = 0) || decide (w = 1)) = true := by
    rcases hw with rfl | rfl <;> rfl
  unfold okR
  by_cases c1 : 0 < a
  · by_cases c2 : (((a.natAbs.gcd b.natAbs).gcd c.natAbs : Nat) : Int) = 1
    · by_cases c3 : 4 * a * c < b * b
      · have e3 := fun h => ev_is_square (h := h) (show 0 ≤ b * b - 4 * a * c by omega) hD
        simp only [F_is_root, M_is_root, defM]
        simp [e1, e2, ev_is_integer, tupM_eq, inM_01, hw', s1, s2, s3, c1, c2, c3, e3]
        exact trunc_app rfl
      · simp [F_is_root, M_is_root, defM, e1, e2, ev_is_integer, tupM_eq, inM_01, hw', s1, s2, s3, c1, c2, c3]
        exact trunc_app rfl
    · simp [F_is_root, M_is_root, defM, e1, e2, ev_is_integer, tupM_eq, inM_01, hw', s1, s2, s3, c1, c2]
      exact trunc_app rfl
  · simp [F_is_root, M_is_root, defM, e1, e2, ev_is_integer, tupM_eq, inM_01, hw', s1, s2, s3, c1]
    exact trunc_app rfl
end Zc
/-! C8L: what is no number. -/
namespace Zc
open PySem L2 Z Q
section
variable {h : IH} {s : Str} {d w a b c : D} {ds : List D} {r : Bool}
theorem str_eq {x y : Str} (hx : SeqAt.shaped (.str x) = true := by decide +kernel) (hy : SeqAt.shaped (.str y) = true := by decide +kernel) : eqM (.str x) (.str y) h = .ok (.bl (x == y)) h := eqM_str hx hy
theorem rr1 : eqM (.str "root") (.str "rational") h = .ok (.bl false) h := by rw [str_eq]; rfl
theorem rr2 : eqM (.str "root") (.str "root") h = .ok (.bl true) h := by rw [str_eq]; rfl
theorem rr3 : eqM (.str "rational") (.str "rational") h = .ok (.bl true) h := by rw [str_eq]; rfl
theorem num_root3 (e : F_is_root [.tup [.str "root", d, w]] h = .ok (.bl r) h) : F_is_number [.tup [.str "root", d, w]] h = .ok (.bl r) h := by
  simp [F_is_number, M_is_number, defM, rr1, rr2, e]
theorem num_rat (e : F_is_rational [d] h = .ok (.bl r) h) : F_is_number [.tup [.str "rational", d]] h = .ok (.bl r) h := by
  simp [F_is_number, M_is_number, defM, rr3, e]
end
end Zc
/-! C9L: the number of an element. -/
namespace Zc
open PySem L2 Z Q
/-! ### plain: the least equation -/
theorem three_gcd {S b c : Int} (hS : 0 < S) : ∃ g : Int, g = (Int.gcd ((Int.gcd S b : Nat) : Int) c : Nat) ∧ 0 < g ∧ g ∣ S ∧ g ∣ b ∧ g ∣ c ∧ Int.gcd ((Int.gcd (S / g) (b / g) : Nat) : Int) (c / g) = 1 := by
  have g0 : 0 < Int.gcd S b := Int.gcd_pos_of_ne_zero_left _ (by omega)
  have g1 : 0 < Int.gcd ((Int.gcd S b : Nat) : Int) c := Int.gcd_pos_of_ne_zero_left _ (by omega)
  have d0 : ((Int.gcd ((Int.gcd S b : Nat) : Int) c : Nat) : Int) ∣ (Int.gcd S b : Nat) := Int.gcd_dvd_left ..
  have dc : ((Int.gcd ((Int.gcd S b : Nat) : Int) c : Nat) : Int) ∣ c := Int.gcd_dvd_right ..
  have dS := Int.dvd_trans d0 (Int.gcd_dvd_left S b)
  have db := Int.dvd_trans d0 (Int.gcd_dvd_right S b)
  refine ⟨_, rfl, by omega, dS, db, dc, ?_⟩
  generalize hg : (Int.gcd ((Int.gcd S b : Nat) : Int) c : Nat) = G at *
  obtain ⟨s, rfl⟩ := dS
  obtain ⟨u, rfl⟩ := db
  obtain ⟨v, rfl⟩ := dc
  have G0 : (G : Int) ≠ 0 := by omega
  rw [Int.mul_ediv_cancel_left _ G0, Int.mul_ediv_cancel_left _ G0, Int.mul_ediv_cancel_left _ G0]
  rw [Int.gcd_mul_left] at hg
  simp only [Int.natAbs_natCast] at hg
  have e : ((G * Int.gcd s u : Nat) : Int) = (G : Int) * (Int.gcd s u : Nat) := by simp
  rw [e, Int.gcd_mul_left, Int.natAbs_natCast] at hg
  exact Nat.eq_of_mul_eq_mul_left g1 (by rw [hg, Nat.mul_one])
theorem mul_den' (R : Rat) : R * (((R.den : Int)) : Rat) = (R.num : Rat) := by
  rw [mul_is]
  have e : (R.num : Rat) = Rat.divInt R.num 1 := (Rat.num_divInt_den (R.num : Rat)).symm
  rw [e]
  exact (Rat.divInt_eq_divInt_iff (Int.mul_ne_zero den_ne den_ne) (by decide)).mpr (by
    show R.num * (R.den : Int) * 1 = R.num * ((R.den : Int) * ((1 : Nat) : Int))
    rw [Int.mul_one]
    simp)
/-- the coefficients -/
theorem least {M L : Rat} : ∃ (S : Nat), S = Nat.lcm M.den L.den ∧ 0 < S ∧ ((L.num * ((S : Int) / L.den) : Int) : Rat) = L * ((S : Int) : Rat) ∧ ((M.num * ((S : Int) / M.den) : Int) : Rat) = M * ((S : Int) : Rat) := by
  have key : ∀ (R : Rat) (S : Nat), R.den ∣ S → ((R.num * ((S : Int) / R.den) : Int) : Rat) = R * ((S : Int) : Rat) := fun R S ⟨k, hk⟩ => by
    subst hk
    have e : ((R.den * k : Nat) : Int) / (R.den : Int) = k := by
      rw [Int.natCast_mul]
      exact Int.mul_ediv_cancel_left _ den_ne
    rw [e]
    have h2 := mul_den' R
    rw [Rat.intCast_mul, ← h2, Int.natCast_mul, Rat.intCast_mul, Rat.mul_assoc]
  exact ⟨_, rfl, Nat.lcm_pos M.den_pos L.den_pos, key L _ (Nat.dvd_lcm_right ..), key M _ (Nat.dvd_lcm_left ..)⟩
section
variable {h : IH} {f n : Int} {x y : Rat} {a b : Bool} {k m : Nat} {d e : D}
end
end Zc
/-! C10L: numbers drawn; one least equation. -/
namespace Zc
open PySem L2 Z Q
@[simp] theorem parM3_eq {i j l : Nat} {ms : MA} {env : Ev} {h : IH} : parM3 i j l ms env h = (ms env h).bindG (fun x h => .exc x env h) .stuck fun ds h => match ds with
  | [d, e, f] => .nx (((env.set i (some d)).set j (some e)).set l (some f)) h
  | _ => .stuck := rfl
/-- a root, as the program has it -/
def rootD (c b a w : Int) : D := .tup [.str "root", .tup [.int c, .int b, .int a], .int w]
/-- c, b, a of a root: a least equation with two irrational roots -/
structure RootOk (c b a w : Int) : Prop where
  a0 : 0 < a
  g : Int.gcd ((Int.gcd a b : Nat) : Int) c = 1
  d0 : 0 < b * b - 4 * a * c
  ns : ¬ IsSq (b * b - 4 * a * c)
  w01 : w = 0 ∨ w = 1
  ba : a.natAbs ≤ 20
  bb : b.natAbs ≤ 20
  bc : c.natAbs ≤ 20
theorem root_good {w : Int} (hw : w = 0 ∨ w = 1) : RootOk (-2) 0 1 w := ⟨by decide, by decide, by decide, not_sq2 (k := 2) (by decide), hw, by decide, by decide, by decide⟩
/-! ### the parts of a root -/
theorem okR_of {c b a w : Int} (r : RootOk c b a w) : okR c b a = true := by
  unfold okR
  have g : (((a.natAbs.gcd b.natAbs).gcd c.natAbs : Nat) : Int) = 1 := by
    have := r.g
    have e : (a.natAbs.gcd b.natAbs).gcd c.natAbs = 1 := by simpa [Int.gcd] using this
    rw [e]; rfl
  have n : sq (b * b - 4 * a * c) = false := by
    cases e : sq (b * b - 4 * a * c) with
    | false => rfl
    | true => exact absurd (sq_iff.mp e) r.ns
  rw [decide_eq_true r.a0, decide_eq_true g, decide_eq_true (show 4 * a * c < b * b by have := r.d0; omega), n] <;> rfl
theorem ev_number_root {h : IH} {c b a w : Int} (r : RootOk c b a w) : F_is_number [rootD c b a w] h = .ok (.bl true) h := by
  have bit : ∀ n : Int, n.natAbs ≤ 20 → Bit 8 n := fun n hn => by unfold Bit; omega
  have := num_root3 (h := h) (ev_is_root (h := h) (bit c r.bc) (bit b r.bb) (bit a r.ba) (by decide) (by decide) r.w01)
  rw [okR_of r] at this
  exact this
def rx (b a : Int) : Rat := Rat.divInt (-b) (2 * a)
def ry (w a : Int) : Rat := Rat.divInt (2 * w - 1) (2 * a)
theorem ev_parts_root {h : IH} {c b a w : Int} (r : RootOk c b a w) : F_parts_of [rootD c b a w] h = .ok (.tup [.int (b * b - 4 * a * c), de (rx b a) (ry w a)]) h := by
  have bit : ∀ n : Int, n.natAbs ≤ 20 → Bit 8 n := fun n hn => by unfold Bit; omega
  have ba := bit a r.ba
  have bb := bit b r.bb
  have bc := bit c r.bc
  have bw : Bit 8 w := by
    have := r.w01
    unfold Bit
    omega
  have b2 : Bit 4 2 := bit2
  have a0 := r.a0
  have s1 := fun h => mulM_int (h := h) (small_of bb bb)
  have s2 := fun h => mulM_int (h := h) (small_of (a := 4) (Bit.pos (x := 4) (by decide) (by decide)) ba)
  have s3 := fun h => mulM_int (h := h) (small_of ((Bit.pos (k := 4) (x := 4) (by decide) (by decide)).mul ba) bc)
  have s4 := fun h => mulM_int (h := h) (small_of b2 ba)
  have s5 := fun h => mulM_int (h := h) (small_of b2 bw)
  have r1 := fun h => ev_ratioR (h := h) (n := -b) (d := 2 * a) (by omega) (b2.mul ba)
  have r2 := fun h => ev_ratioR (h := h) (n := 2 * w - 1) (d := 2 * a) (by omega) (b2.mul ba)
  have e1 : eqM (.str "root") (.str "rational") h = .ok (.bl false) h := rr1
  simp [rootD, F_parts_of, M_parts_of, defM, e1, s1, s2, s3, s4, s5, r1, r2, tupM_eq, de_is, rx, ry]
theorem ev_parts_rat {h : IH} {x : Rat} : F_parts_of [.tup [.str "rational", dr x]] h = .ok (.tup [.int 0, de x 0]) h := by
  have zd : D.tup [.int 0, .int 1] = dr 0 := rfl
  have e1 : eqM (.str "rational") (.str "rational") h = .ok (.bl true) h := rr3
  simp [F_parts_of, M_parts_of, defM, e1, tupM_eq, de_is, zd]
theorem ev_square_sign {h : IH} {f : Int} {x y : Rat} {k m : Nat} (f0 : 0 < f) (hf : Bit m f) (hx : RB k x) (hy : RB k y) (hk : 4 * k + m ≤ 9000 := by decide) (h0 : 0 < k := by decide) (h2 : 0 < m := by decide) : F_square_sign [dr x, dr y, .int f] h = .ok (.int (pS f x y)) h := by
  have e0 := fun h => mulM_int (h := h) (small_of hy.n hf (by omega) h0 h2)
  have e3 := fun h => ev_times (h := h) hx hx (by omega) h0 h0
  have e4 := fun h => ev_times (h := h) hy hy (by omega) h0 h0
  have e5 := fun h => ev_times (h := h) (RB.int hf h2) (hy.mul hy) (by omega) h2 (by omega)
  have e6 := fun h => ev_minus (h := h) (hx.mul hx) ((RB.int hf h2).mul (hy.mul hy)) (by omega) (by omega) (by omega)
  have eN : x * x - (f : Rat) * (y * y) = nrm f x y := rfl
  have e2 := fun h => mulM_int (h := h) (small_of (sg_bit (n := x.num)) (sg_bit (n := (nrm f x y).num)))
  have es : sg (y.num * f) = sg y.num := sg_mul f0
  unfold pS
  by_cases c1 : sg y.num = 0
  · simp [F_square_sign, M_square_sign, defM, ev_sign, e0, es, c1]
  · by_cases c2 : sg x.num = sg y.num
    · simp [F_square_sign, M_square_sign, defM, ev_sign, e0, es, c1, c2]
    · by_cases c3 : sg x.num = 0
      · have c2' : ¬ 0 = sg y.num := fun z => c1 z.symm
        simp [F_square_sign, M_square_sign, defM, ev_sign, e0, es, c1, c3, c2']
      · simp [F_square_sign, M_square_sign, defM, ev_sign, e0, es, c1, c2, c3, tupM_eq, dr_int, e3, e4, e5, e6, eN, e2]
theorem ev_square_sign0 {h : IH} {x y : Rat} {k : Nat} (hy : RB k y) (hk : k ≤ 9000 := by decide) (h0 : 0 < k := by decide) : F_square_sign [dr x, dr y, .int 0] h = .ok (.int (sg x.num)) h := by
  have e0 := fun h => mulM_int (h := h) (x := y.num) (y := 0) (small_of hy.n (Bit.pos (k := 1) (by decide) (by decide)) (by omega) h0 (by decide))
  have z : sg 0 = 0 := rfl
  simp [F_square_sign, M_square_sign, defM, ev_sign, e0, z]
theorem sg_divInt {n d : Int} (hd : 0 < d) : sg (Rat.divInt n d).num = sg n := by
  have e : (Rat.divInt n d).num * d = n * ((Rat.divInt n d).den : Int) := (Rat.divInt_eq_divInt_iff den_ne (by omega)).mp (Rat.num_divInt_den _)
  rw [← sg_mul (a := (Rat.divInt n d).num) hd, e, sg_mul den_pos']
/-- the law's sign of a root -/
def besS (c b w : Int) : Int := if w = 1 then (if b ≤ 0 ∨ c < 0 then 1 else -1) else (if 0 ≤ b ∨ c < 0 then -1 else 1)
section
variable {h : IH} {d d' : D} {nm : Str} {f : Int} {x y : Rat}
theorem check_yes (hd : okV h d = .ok d h) (hn : okV h (.str nm) = .ok (.str nm) h := by rfl) (e : F_is_number [d] h = .ok (.bl true) h) : F_check_number [d, .str nm] h = .ok .non h := by
  simp [F_check_number, M_check_number, defM, hd, e]
theorem check_no (hd : okV h d = .ok d h) (e : F_is_number [d] h = .ok (.bl false) h) : F_check_number [d, .str nm] h = .exc ⟨"BadValue", [("name", .str nm)]⟩ h := by
  simp [F_check_number, M_check_number, defM, hd, e]
end
theorem ry_ne {w a : Int} (hw : w = 0 ∨ w = 1) (a0 : 0 < a) : ry w a ≠ 0 := fun z => by
  have := sg_divInt (n := 2 * w - 1) (d := 2 * a) (by omega)
  have e : Rat.divInt (2 * w - 1) (2 * a) = 0 := z
  rw [e] at this
  have s0 : sg (0 : Rat).num = 0 := rfl
  rw [s0] at this
  rcases hw with q | q <;> subst q
  · rw [sg_neg (by decide)] at this; exact absurd this (by decide)
  · rw [sg_pos (by decide)] at this; exact absurd this (by decide)
end Zc
/-! K11T: numbers as rows; where they stand beside rationals, and beside each other. Plain. -/
namespace Zc
open PySem L2 Z Q
inductive Nb where
  | rat (x : Rat) | root (c b a w : Int)
def dNb : Nb → D
  | .rat x => .tup [.str "rational", dr x]
  | .root c b a w => rootD c b a w
def OkNb (q : Nat) : Nb → Prop
  | .rat x => x.den ≤ q ∧ -1999 ≤ x ∧ x ≤ 1999
  | .root c b a w => RootOk c b a w ∧ 2 * a ≤ (q : Int)
def fN : Nb → Nat
  | .rat _ => 0
  | .root c b a _ => (b * b - 4 * a * c).toNat
def xN : Nb → Rat
  | .rat x => x
  | .root _ b a _ => rx b a
def uN : Nb → Rat
  | .rat _ => 0
  | .root _ _ a w => ry w a
def qN : Nb → Nat
  | .rat x => x.den
  | .root _ _ a _ => (2 * a).toNat
noncomputable def rowN (N : Nb) (k : Nat) : Rat := xN N + uN N * rt (fN N) k
def besN (N : Nb) (n q : Int) : Int := match N with
  | .rat x => sg (x.num * q - n * x.den)
  | .root c b a w => besS (c * q * q + b * n * q + a * n * n) (2 * a * n + b * q) w
def cmpN (N M : Nb) : Int := toS (xN N - xN M) (uN N) (fN N) (-uN M) (fN M)
section
variable {N M : Nb} {n m q : Int} {Q1 : Nat}
theorem fN_root {c b a w : Int} (r : RootOk c b a w) : ((fN (.root c b a w) : Nat) : Int) = b * b - 4 * a * c := by
  have := r.d0
  show (((b * b - 4 * a * c).toNat : Nat) : Int) = _
  omega
theorem bes_is (ok : OkNb Q1 N) (hq : 0 < q) : IsS (besN N n q) fun k => rowN N k - Rat.divInt n q := by
  have q0 : (q : Rat) ≠ 0 := fun z => by
    have : q = 0 := by exact_mod_cast z
    omega
  cases N with
  | rat x =>
    have p := is_const (x := x - Rat.divInt n q)
    have e : x - Rat.divInt n q = Rat.divInt (x.num * q - n * x.den) (x.den * q) := by
      conv => lhs; rw [← Rat.num_divInt_den x]
      rw [Rat.divInt_sub_divInt _ _ den_ne (by omega)]
    have e2 : sg (x - Rat.divInt n q).num = sg (x.num * q - n * x.den) := by
      rw [e]
      exact sg_divInt (Int.mul_pos den_pos' hq)
    rw [e2] at p
    exact p.eq fun k => by show _ = x + 0 * _ - _; grind
  | root c b a w =>
    obtain ⟨r, _⟩ := ok
    have a0 := r.a0
    have ar : (a : Rat) ≠ 0 := fun z => by
      have : a = 0 := by exact_mod_cast z
      omega
    have f0 : fN (.root c b a w) ≠ 0 := fun z => by have := fN_root r; have := r.d0; omega
    have p := sS_is (x := rx b a - Rat.divInt n q) (y := ry w a) (rt_r (fN (.root c b a w)))
    have hw : (w : Rat) = 0 ∨ (w : Rat) = 1 := by
      rcases r.w01 with z | z
      · left; rw [z]; rfl
      · right; rw [z]; rfl
    have e1 : rx b a - Rat.divInt n q = Rat.divInt (-(2 * a * n + b * q)) (2 * a * q) := by
      unfold rx
      rw [Rat.divInt_eq_div, Rat.divInt_eq_div, Rat.divInt_eq_div]
      simp only [Rat.intCast_add, Rat.intCast_mul, Rat.intCast_neg, Rat.intCast_ofNat]
      grind
    have e2 : nrm (b * b - 4 * a * c) (rx b a - Rat.divInt n q) (ry w a) = Rat.divInt (c * q * q + b * n * q + a * n * n) (a * (q * q)) := by
      unfold nrm
      rw [e1]
      unfold ry
      rw [Rat.divInt_eq_div, Rat.divInt_eq_div, Rat.divInt_eq_div]
      simp only [Rat.intCast_add, Rat.intCast_sub, Rat.intCast_mul, Rat.intCast_neg, Rat.intCast_ofNat]
      rcases hw with z | z <;> rw [z] <;> grind
    have s1 : sg (rx b a - Rat.divInt n q).num = -sg (2 * a * n + b * q) := by rw [← sg_n, e1]; exact sg_divInt (Int.mul_pos (by omega) hq)
    have s2 : sg (ry w a).num = sg (2 * w - 1) := sg_divInt (by omega)
    have s3 : sg (nrm (b * b - 4 * a * c) (rx b a - Rat.divInt n q) (ry w a)).num = sg (c * q * q + b * n * q + a * n * n) := by rw [e2]; exact sg_divInt (Int.mul_pos a0 (Int.mul_pos hq hq))
    have h0 : c * q * q + b * n * q + a * n * n ≠ 0 := fun z => by
      refine nrm_ne (f := b * b - 4 * a * c) (u := rx b a - Rat.divInt n q) (v := ry w a) (.inr r.ns) (fun z => by have := r.d0; omega) (fun z => ry_ne r.w01 a0 z.2) ?_
      rw [e2, z, Rat.zero_divInt]
    have e3 : sS (fN (.root c b a w)) (rx b a - Rat.divInt n q) (ry w a) = besN (.root c b a w) n q := by
      unfold sS
      rw [if_neg f0, fN_root r]
      show pS _ _ _ = besS (c * q * q + b * n * q + a * n * n) (2 * a * n + b * q) w
      unfold pS besS
      rw [s1, s2, s3]
      generalize c * q * q + b * n * q + a * n * n = C at h0
      generalize 2 * a * n + b * q = B
      rcases r.w01 with z | z <;> subst z
      · rcases Int.lt_trichotomy B 0 with q | q | q <;> rcases Int.lt_trichotomy C 0 with t | t | t <;> simp [sg_pos, sg_neg, sg_0, q, t] <;> omega
      · rcases Int.lt_trichotomy B 0 with q | q | q <;> rcases Int.lt_trichotomy C 0 with t | t | t <;> simp [sg_pos, sg_neg, sg_0, q, t] <;> omega
    rw [e3] at p
    exact p.eq fun k => by show _ = rx b a + ry w a * _ - _; grind
theorem cmp_is : IsS (cmpN N M) fun k => rowN N k - rowN M k :=
  (toS_is (r := xN N - xN M) (u := uN N) (v := -uN M) (rt_r (fN N)) (rt_r (fN M))).eq fun k => by unfold rowN; grind
theorem cmp_anti : cmpN M N = -cmpN N M := (cmp_is (N := M) (M := N)).uniq ((cmp_is (N := N) (M := M)).neg.eq fun k => by grind)
theorem cmp_self : cmpN N N = 0 := (cmp_is (N := N) (M := N)).uniq (.inr (.inr ⟨rfl, NuQ.zero.eq fun k => by grind⟩))
theorem divInt_le (hq : 0 < q) (h : n ≤ m) : Rat.divInt n q ≤ Rat.divInt m q := by
  have q0 : (0 : Rat) < (q : Rat) := by
    have : ((0 : Int) : Rat) < ((q : Int) : Rat) := Rat.intCast_lt_intCast.mpr hq
    exact this
  have hm : (n : Rat) ≤ (m : Rat) := Rat.intCast_le_intCast.mpr h
  rw [Rat.divInt_eq_div, Rat.divInt_eq_div]
  have e1 : (n : Rat) / q * q = n := div_mul_c (by grind)
  have e2 : (m : Rat) / q * q = m := div_mul_c (by grind)
  generalize (n : Rat) / q = s at e1
  generalize (m : Rat) / q = t at e2
  rcases Rat.le_total (a := s) (b := t) with z | z
  · exact z
  · by_cases w : s = t
    · grind
    · have := Rat.mul_pos (a := s - t) (b := (q : Rat)) (by grind) q0
      grind
/-- above, at last: but for any little -/
theorem IsS.ge {s : Int} {f : RSq} (p : IsS s f) (h : 0 ≤ s) {ε : Rat} (e0 : 0 < ε) : ∃ K : Nat, ∀ k, K ≤ k → -ε ≤ f k := by
  rcases p with ⟨_, δ, d0, K, hK⟩ | ⟨z, _⟩ | ⟨_, z⟩
  · exact ⟨K, fun k hk => by have := hK k hk; grind⟩
  · omega
  · obtain ⟨K, hK⟩ := z ε e0
    exact ⟨K, fun k hk => (hK k hk).1⟩
theorem IsS.lt {s : Int} {f : RSq} (p : IsS s f) (h : s < 0) : PsQ fun k => -f k := by
  rcases p with ⟨z, _⟩ | ⟨_, z⟩ | ⟨z, _⟩
  · omega
  · exact z
  · omega
theorem cmp_lt {Q2 : Nat} (o1 : OkNb Q1 N) (o2 : OkNb Q2 M) (hq : 0 < q) (h1 : besN N n q < 0) (h2 : 0 ≤ besN M m q) (h : n ≤ m) : cmpN N M = -1 := by
  obtain ⟨δ, d0, K, hK⟩ := (bes_is (n := n) o1 hq).lt h1
  obtain ⟨K2, hK2⟩ := (bes_is (n := m) o2 hq).ge h2 (half_pos' d0)
  have le := divInt_le hq h
  refine (cmp_is (N := N) (M := M)).uniq (.inr (.inl ⟨rfl, δ / 2, half_pos' d0, K + K2, fun k hk => ?_⟩))
  have a := hK k (by omega)
  have b := hK2 k (by omega)
  grind
theorem qN_le (o : OkNb Q1 N) : 0 < qN N ∧ qN N ≤ Q1 := by
  cases N with
  | rat x => exact ⟨x.den_pos, o.1⟩
  | root c b a w =>
    obtain ⟨r, h⟩ := o
    have := r.a0
    show 0 < (2 * a).toNat ∧ (2 * a).toNat ≤ Q1
    omega
theorem qN_x (o : OkNb Q1 N) : ∃ i : Int, xN N * (qN N : Rat) = (i : Rat) := by
  cases N with
  | rat x =>
    refine ⟨x.num, ?_⟩
    show x * ((x.den : Nat) : Rat) = _
    have e := Rat.num_divInt_den x
    have d0 : ((x.den : Nat) : Rat) ≠ 0 := fun z => by
      have : x.den = 0 := by exact_mod_cast z
      exact x.den_nz this
    conv => lhs; lhs; rw [← e]
    rw [Rat.divInt_eq_div, Rat.intCast_natCast]
    exact div_mul_c d0
  | root c b a w =>
    obtain ⟨r, h⟩ := o
    have a0 := r.a0
    refine ⟨-b, ?_⟩
    show rx b a * (((2 * a).toNat : Nat) : Rat) = _
    have e : (((2 * a).toNat : Nat) : Rat) = ((2 * a : Int) : Rat) := by
      rw [← Rat.intCast_natCast]
      congr 1
      omega
    have d0 : ((2 * a : Int) : Rat) ≠ 0 := fun z => by
      have : 2 * a = 0 := by exact_mod_cast z
      omega
    rw [e]
    unfold rx
    rw [Rat.divInt_eq_div]
    exact div_mul_c d0
theorem qN_u (o : OkNb Q1 N) : ∃ i : Int, uN N * (qN N : Rat) = (i : Rat) := by
  cases N with
  | rat x => exact ⟨0, by show (0 : Rat) * _ = 0; grind⟩
  | root c b a w =>
    obtain ⟨r, h⟩ := o
    have a0 := r.a0
    refine ⟨2 * w - 1, ?_⟩
    show ry w a * (((2 * a).toNat : Nat) : Rat) = _
    have e : (((2 * a).toNat : Nat) : Rat) = ((2 * a : Int) : Rat) := by
      rw [← Rat.intCast_natCast]
      congr 1
      omega
    have d0 : ((2 * a : Int) : Rat) ≠ 0 := fun z => by
      have : 2 * a = 0 := by exact_mod_cast z
      omega
    rw [e]
    unfold ry
    rw [Rat.divInt_eq_div]
    exact div_mul_c d0
theorem half_le {i a : Int} {B : Int} (a0 : 0 < a) (h1 : -(B * a) ≤ i) (h2 : i ≤ B * a) : -(B : Rat) ≤ Rat.divInt i a ∧ Rat.divInt i a ≤ (B : Rat) := by
  have a1 : ((0 : Int) : Rat) < ((a : Int) : Rat) := Rat.intCast_lt_intCast.mpr a0
  have a1 : (0 : Rat) < (a : Rat) := a1
  have c1 : ((-(B * a) : Int) : Rat) ≤ ((i : Int) : Rat) := Rat.intCast_le_intCast.mpr h1
  have c2 : ((i : Int) : Rat) ≤ ((B * a : Int) : Rat) := Rat.intCast_le_intCast.mpr h2
  simp only [Rat.intCast_neg, Rat.intCast_mul] at c1 c2
  rw [Rat.divInt_eq_div]
  have e1 : (i : Rat) / a * a = i := div_mul_c (by grind)
  generalize (i : Rat) / a = t at e1
  generalize (a : Rat) = A at *
  generalize (B : Rat) = C at *
  constructor
  · rcases Rat.le_total (a := -C) (b := t) with z | z
    · exact z
    · by_cases w : -C = t
      · grind
      · have := Rat.mul_pos (a := -C - t) (b := A) (by grind) a1
        grind
  · rcases Rat.le_total (a := t) (b := C) with z | z
    · exact z
    · by_cases w : t = C
      · grind
      · have := Rat.mul_pos (a := t - C) (b := A) (by grind) a1
        grind
theorem xN_le (o : OkNb Q1 N) : -2001 ≤ xN N ∧ xN N ≤ 2001 := by
  cases N with
  | rat x =>
    have := o.2
    show -2001 ≤ x ∧ x ≤ 2001
    grind
  | root c b a w =>
    obtain ⟨r, h⟩ := o
    have a0 := r.a0
    have bb := r.bb
    have := half_le (i := -b) (a := 2 * a) (B := 2001) (by omega) (by omega) (by omega)
    exact this
theorem uN_le (o : OkNb Q1 N) (k : Nat) : -1001 ≤ uN N * rt (fN N) k ∧ uN N * rt (fN N) k ≤ 1001 := by
  cases N with
  | rat x =>
    show -1001 ≤ (0 : Rat) * _ ∧ (0 : Rat) * _ ≤ 1001
    grind
  | root c b a w =>
    obtain ⟨r, h⟩ := o
    have a0 := r.a0
    have f := fN_root r
    have hw := r.w01
    have ba := r.ba
    have bb := r.bb
    have bc := r.bc
    have fl : fN (.root c b a w) ≤ 2000 := by
      have h1 : b * b ≤ 400 := by
        have : (b.natAbs * b.natAbs : Nat) ≤ 20 * 20 := Nat.mul_le_mul bb bb
        have e : ((b.natAbs * b.natAbs : Nat) : Int) = b * b := Int.natAbs_mul_self
        omega
      have h2 : -(a * c) ≤ 400 := by
        have : (a.natAbs * c.natAbs : Nat) ≤ 20 * 20 := Nat.mul_le_mul ba bc
        rw [← Int.natAbs_mul] at this
        omega
      have e : 4 * a * c = 4 * (a * c) := by grind
      omega
    have q : ((fN (.root c b a w) : Nat) : Rat) ≤ ((2000 : Nat) : Rat) := Rat.natCast_le_natCast.mpr fl
    have q : ((fN (.root c b a w) : Nat) : Rat) ≤ 2000 := q
    obtain ⟨r0, r1⟩ := rt_bd (fN (.root c b a w)) k
    have y := half_le (i := 2 * (2 * w - 1)) (a := 2 * a) (B := 1) (by omega) (by omega) (by omega)
    have e2 : Rat.divInt (2 * (2 * w - 1)) (2 * a) = 2 * ry w a := by
      unfold ry
      rw [Rat.divInt_eq_div, Rat.divInt_eq_div]
      simp only [Rat.intCast_sub, Rat.intCast_mul, Rat.intCast_ofNat]
      grind
    rw [e2] at y
    have y : -(1 : Rat) ≤ 2 * ry w a ∧ 2 * ry w a ≤ 1 := y
    show -1001 ≤ ry w a * _ ∧ ry w a * _ ≤ 1001
    generalize rt (fN (.root c b a w)) k = t at *
    generalize ry w a = u at *
    have p1 := Rat.mul_nonneg (a := 1 - 2 * u) (b := t) (by grind) r0
    have p2 := Rat.mul_nonneg (a := 1 + 2 * u) (b := t) (by grind) r0
    grind
/-- the same floor at a fine scale: the same number -/
theorem cmp_same (o1 : OkNb 40 N) (o2 : OkNb 9999 M) (h1 : 0 ≤ besN N n (2 ^ 120)) (h2 : besN N (n + 1) (2 ^ 120) < 0) (h3 : 0 ≤ besN M n (2 ^ 120)) (h4 : besN M (n + 1) (2 ^ 120) < 0) : cmpN N M = 0 := by
  have hq : (0 : Int) < 2 ^ 120 := by decide
  obtain ⟨A0, A1⟩ := qN_le o1
  obtain ⟨B0, B1⟩ := qN_le o2
  obtain ⟨i1, x1⟩ := qN_x o1
  obtain ⟨i2, x2⟩ := qN_x o2
  obtain ⟨j1, u1⟩ := qN_u o1
  obtain ⟨j2, u2⟩ := qN_u o2
  have s0 : (0 : Rat) < 1 / ((2 ^ 120 : Nat) : Rat) := by decide +kernel
  obtain ⟨K1, k1⟩ := (bes_is (n := n) o1 hq).ge h1 s0
  obtain ⟨d2, d20, K2, k2⟩ := (bes_is (n := n + 1) o1 hq).lt h2
  obtain ⟨K3, k3⟩ := (bes_is (n := n) o2 hq).ge h3 s0
  obtain ⟨d4, d40, K4, k4⟩ := (bes_is (n := n + 1) o2 hq).lt h4
  have e1 : Rat.divInt (n + 1) (2 ^ 120) = Rat.divInt n (2 ^ 120) + 1 / ((2 ^ 120 : Nat) : Rat) := by
    rw [Rat.divInt_eq_div, Rat.divInt_eq_div]
    have : (((2 ^ 120 : Int) : Int) : Rat) = ((2 ^ 120 : Nat) : Rat) := by decide +kernel
    rw [this]
    simp only [Rat.intCast_add]
    have one : (((1 : Int) : Int) : Rat) = 1 := rfl
    rw [one]
    grind
  have s1 : 2 * (1 / ((2 ^ 120 : Nat) : Rat)) ≤ sm118 := by decide +kernel
  have ba := xN_le o1
  have bb := xN_le o2
  have bu := uN_le o1
  have bv := uN_le o2
  refine gap (Q := qN N * qN M) (R := i1 * qN M - i2 * qN N) (U := j1 * qN M) (V := -j2 * qN N) (Nat.mul_pos A0 B0) ?_ ?_ ?_ ?_ (rt_r (fN N)) (rt_r (fN M)) ?_ ?_ ?_ ?_ ?_
  · exact Nat.le_trans (Nat.mul_le_mul A1 B1) (by decide)
  · rw [Rat.natCast_mul, Rat.intCast_sub, Rat.intCast_mul, Rat.intCast_mul, Rat.intCast_natCast, Rat.intCast_natCast, ← x1, ← x2]
    grind
  · rw [Rat.natCast_mul, Rat.intCast_mul, Rat.intCast_natCast, ← u1]
    grind
  · rw [Rat.natCast_mul, Rat.intCast_mul, Rat.intCast_natCast, Rat.intCast_neg, ← u2]
    grind
  · intro k
    have := bu k
    have := bv k
    show -8192 ≤ xN N - xN M + (uN N * rt (fN N) k + -uN M * rt (fN M) k) ∧ _ + (uN N * rt (fN N) k + -uN M * rt (fN M) k) ≤ 8192
    grind
  · intro k
    have := bu k
    have := bv k
    show -8192 ≤ xN N - xN M + (-uN N * rt (fN N) k + - -uN M * rt (fN M) k) ∧ _ + (-uN N * rt (fN N) k + - -uN M * rt (fN M) k) ≤ 8192
    grind
  · intro k
    have := bu k
    have := bv k
    show -8192 ≤ xN N - xN M + (uN N * rt (fN N) k + - -uN M * rt (fN M) k) ∧ _ + (uN N * rt (fN N) k + - -uN M * rt (fN M) k) ≤ 8192
    grind
  · intro k
    have := bu k
    have := bv k
    show -8192 ≤ xN N - xN M + (-uN N * rt (fN N) k + -uN M * rt (fN M) k) ∧ _ + (-uN N * rt (fN N) k + -uN M * rt (fN M) k) ≤ 8192
    grind
  · refine ⟨K1 + K2 + K3 + K4, fun k hk => ?_⟩
    have a : -(1 / ((2 ^ 120 : Nat) : Rat)) ≤ xN N + uN N * rt (fN N) k - Rat.divInt n (2 ^ 120) := k1 k (by omega)
    have b : d2 ≤ -(xN N + uN N * rt (fN N) k - Rat.divInt (n + 1) (2 ^ 120)) := k2 k (by omega)
    have c : -(1 / ((2 ^ 120 : Nat) : Rat)) ≤ xN M + uN M * rt (fN M) k - Rat.divInt n (2 ^ 120) := k3 k (by omega)
    have d : d4 ≤ -(xN M + uN M * rt (fN M) k - Rat.divInt (n + 1) (2 ^ 120)) := k4 k (by omega)
    rw [e1] at b d
    clear k1 k2 k3 k4 bu bv ba bb e1 x1 x2 u1 u2 h1 h2 h3 h4 o1 o2 hq
    generalize 1 / ((2 ^ 120 : Nat) : Rat) = s at a b c d s0 s1
    generalize Rat.divInt n (2 ^ 120) = t at a b c d
    have e5 : -uN M * rt (fN M) k = -(uN M * rt (fN M) k) := by grind
    rw [e5]
    generalize uN N * rt (fN N) k = y1 at a b ⊢
    generalize uN M * rt (fN M) k = y2 at c d ⊢
    generalize sm118 = z at s1 ⊢
    grind
end
end Zc
/-! common mirrors -/
namespace Zc
open PySem PySem.Spec PyProof.Rows L2 Z
end Zc
/-! P1: plain data: none, ints, texts, tuples of such; when two are equal, and in. -/
namespace Z
open PySem PySem.Spec PyProof.Rows L2
/-- plain, to the depth k -/
def pln : Nat → D → Bool
  | 0, _ => false
  | k + 1, d => match d with
    | .non => true
    | .int _ => true
    | .str x => PyData.strOk x
    | .tup ds => ds.all (pln k)
    | _ => false
theorem pdL_cons {f : D → Option PyData} {d : D} {ds : List D} {p : PyData} {ps : List PyData} (h1 : f d = some p) (h2 : pdL f ds = some ps) : pdL f (d :: ds) = some (p :: ps) := by
  unfold pdL
  rw [h1, h2]
theorem pd_pln (h : IH) : ∀ (k : Nat) (d : D), pln k d = true → ∃ p, pd k h d = some p ∧ p.canLay0 = true ∧ p.depth ≤ k
  | 0, _, e => by cases e
  | k + 1, d, e => by
    cases d with
    | non => exact ⟨.none, rfl, by simp [PyData.canLay0], by simp [PyData.depth]⟩
    | int i => exact ⟨.int i, rfl, by simp [PyData.canLay0], by simp [PyData.depth]⟩
    | str x => exact ⟨.str x, rfl, by simp [PyData.canLay0]; exact e, by simp [PyData.depth]⟩
    | tup ds =>
      have e : ds.all (pln k) = true := e
      have key : ∀ ds : List D, ds.all (pln k) = true → ∃ ps, pdL (pd k h) ds = some ps ∧ PyData.canLayAll0 ps = true ∧ PyData.depthAll ps ≤ k := by
        intro ds
        induction ds with
        | nil => exact fun _ => ⟨[], rfl, by simp [PyData.canLayAll0], by simp [PyData.depthAll]⟩
        | cons d ds ih =>
          intro e
          rw [List.all_cons, Bool.and_eq_true] at e
          obtain ⟨p, h1, h2, h3⟩ := pd_pln h k d e.1
          obtain ⟨ps, g1, g2, g3⟩ := ih e.2
          exact ⟨p :: ps, pdL_cons h1 g1, by simp [PyData.canLayAll0, h2, g2], by simp [PyData.depthAll]; omega⟩
      obtain ⟨ps, h1, h2, h3⟩ := key ds e
      refine ⟨PyData.tuple ps, ?_, by simp [PyData.canLay0, h2], by simp [PyData.depth]; omega⟩
      show (pdL (pd k h) ds).map PyData.tuple = some (PyData.tuple ps)
      rw [h1]; rfl
    | bl b => cases e
    | ref n => cases e
    | fz ds => cases e
    | xv => cases e
theorem eqv_pln (h : IH) : ∀ (k : Nat) (d e : D) (p q : PyData), pln k d = true → pln k e = true → pd k h d = some p → pd k h e = some q → (PyData.eqv p q = true ↔ d = e)
  | 0, _, _, _, _, c, _, _, _ => by cases c
  | k + 1, d, e, p, q, c1, c2, e1, e2 => by
    have key : ∀ (ds es : List D) (ps qs : List PyData), ds.all (pln k) = true → es.all (pln k) = true → pdL (pd k h) ds = some ps → pdL (pd k h) es = some qs → (PyData.eqvAll ps qs = true ↔ ds = es) := by
      intro ds
      induction ds with
      | nil =>
        intro es ps qs _ c2 e1 e2
        cases e1
        cases es with
        | nil => cases e2; simp [PyData.eqvAll]
        | cons x xs =>
          unfold pdL at e2
          split at e2
          · cases e2; simp [PyData.eqvAll]
          · cases e2
      | cons d ds ih =>
        intro es ps qs c1 c2 e1 e2
        unfold pdL at e1
        split at e1
        · rename_i p0 ps0 f1 f2
          cases e1
          cases es with
          | nil => cases e2; simp [PyData.eqvAll]
          | cons x xs =>
            unfold pdL at e2
            split at e2
            · rename_i q0 qs0 g1 g2
              cases e2
              rw [List.all_cons, Bool.and_eq_true] at c1 c2
              have r1 := eqv_pln h k d x p0 q0 c1.1 c2.1 f1 g1
              have r2 := ih xs ps0 qs0 c1.2 c2.2 f2 g2
              simp only [PyData.eqvAll, Bool.and_eq_true, r1, r2, List.cons.injEq]
            · cases e2
        · cases e1
    have tup : ∀ {ds : List D} {p : PyData}, pd (k + 1) h (.tup ds) = some p → ∃ ps, pdL (pd k h) ds = some ps ∧ p = .tuple ps := fun {ds p} e => by
      obtain ⟨ps, f1, f2⟩ := Option.map_eq_some_iff.mp (show (pdL (pd k h) ds).map PyData.tuple = some p from e)
      exact ⟨ps, f1, f2.symm⟩
    cases d with
    | non =>
      cases e1
      cases e with
      | non => cases e2; simp [PyData.eqv]
      | int i => cases e2; simp [PyData.eqv]
      | str x => cases e2; simp [PyData.eqv]
      | tup ds => obtain ⟨qs, _, rfl⟩ := tup e2; simp [PyData.eqv]
      | _ => cases c2
    | int i =>
      cases e1
      cases e with
      | non => cases e2; simp [PyData.eqv]
      | int i => cases e2; simp [PyData.eqv]
      | str x => cases e2; simp [PyData.eqv]
      | tup ds => obtain ⟨qs, _, rfl⟩ := tup e2; simp [PyData.eqv]
      | _ => cases c2
    | str x =>
      cases e1
      cases e with
      | non => cases e2; simp [PyData.eqv]
      | int i => cases e2; simp [PyData.eqv]
      | str x => cases e2; simp [PyData.eqv]
      | tup ds => obtain ⟨qs, _, rfl⟩ := tup e2; simp [PyData.eqv]
      | _ => cases c2
    | tup ds =>
      obtain ⟨ps, f1, rfl⟩ := tup e1
      cases e with
      | non => cases e2; simp [PyData.eqv]
      | int i => cases e2; simp [PyData.eqv]
      | str x => cases e2; simp [PyData.eqv]
      | tup es =>
        obtain ⟨qs, g1, rfl⟩ := tup e2
        have := key ds es ps qs c1 c2 f1 g1
        simp only [PyData.eqv, this, D.tup.injEq]
      | _ => cases c2
    | _ => cases c1
theorem pln_shaped {h : IH} {d : D} (c : pln 16 d = true) : ∃ p, pd pdK h d = some p ∧ SeqAt.shaped p = true := by
  obtain ⟨p, h1, h2, h3⟩ := pd_pln h 16 d c
  refine ⟨p, h1, ?_⟩
  unfold SeqAt.shaped
  rw [h2, decide_eq_true (by omega)]
  rfl
theorem eqB_pln {h : IH} {d e : D} (c1 : pln 16 d = true) (c2 : pln 16 e = true) : ∃ b, eqB h d e = some b ∧ (b = true ↔ d = e) := by
  obtain ⟨p, h1, h2⟩ := pln_shaped (h := h) c1
  obtain ⟨q, g1, g2⟩ := pln_shaped (h := h) c2
  refine ⟨PyData.eqv p q, ?_, eqv_pln h 16 d e p q c1 c2 h1 g1⟩
  unfold eqB
  rw [h1, g1]
  exact if_pos ⟨h2, g2⟩
open Classical in
theorem eqB_pl {h : IH} {d e : D} (c1 : pln 16 d = true) (c2 : pln 16 e = true) : eqB h d e = some (decide (d = e)) := by
  obtain ⟨b, h1, h2⟩ := eqB_pln (h := h) c1 c2
  rw [h1]
  congr 1
  by_cases c : d = e
  · rw [decide_eq_true c]; exact h2.mpr c
  · rw [decide_eq_false c]
    cases b with
    | false => rfl
    | true => exact absurd (h2.mp rfl) c
open Classical in
theorem eqM_pl {h : IH} {d e : D} (c1 : pln 16 d = true) (c2 : pln 16 e = true) : eqM d e h = .ok (.bl (decide (d = e))) h := by
  unfold eqM
  rw [eqB_pl c1 c2]
end Z
/-! G1D: graphs as data. -/
namespace Zc
open PySem L2 Z Q
section
variable {h : IH}
end
/-! ### the data -/
/-- a point -/
inductive Pt where
  | exit (e : Nat) | draw (bs : List (Rat × Nat)) | choose (ps : List Nat) | call (p : Nat) (ps : List Nat) | reward (a : Rat) (p : Nat) | reject | stop
def iD (n : Nat) : D := .int (n : Int)
def dB (b : Rat × Nat) : D := .tup [dr b.1, iD b.2]
def dPt : Pt → D
  | .exit e => .tup [.str "exit", iD e]
  | .draw bs => .tup [.str "draw", .tup (bs.map dB)]
  | .choose ps => .tup [.str "choose", .tup (ps.map iD)]
  | .call p ps => .tup [.str "call", iD p, .tup (ps.map iD)]
  | .reward a p => .tup [.str "reward", dr a, iD p]
  | .reject => .tup [.str "reject"]
  | .stop => .tup [.str "stop"]
/-- a procedure -/
structure Pr where
  ex : Nat
  pts : List Pt
def dP (p : Pr) : D := .tup [iD p.ex, .tup (p.pts.map dPt)]
abbrev Gr := List Pr
def dG (g : Gr) : D := .tup (g.map dP)
/-! ### what is wanted of it -/
def OkB (many : Nat) (b : Rat × Nat) : Prop := 0 < b.1.num ∧ b.1.num ≤ 60 ∧ b.1.den ≤ 60 ∧ b.2 < many
def sumR (bs : List (Rat × Nat)) : Rat := bs.foldl (fun t b => t + b.1) 0
def OkPt (g : Gr) (ex many : Nat) : Pt → Prop
  | .exit e => e < ex
  | .draw bs => 1 ≤ bs.length ∧ bs.length ≤ 4 ∧ (∀ b ∈ bs, OkB many b) ∧ sumR bs = 1
  | .choose ps => 1 ≤ ps.length ∧ ps.length ≤ 4 ∧ ∀ p ∈ ps, p < many
  | .call p ps => ∃ q, g[p]? = some q ∧ ps.length = q.ex ∧ ∀ p ∈ ps, p < many
  | .reward a p => 0 ≤ a.num ∧ a.num ≤ 1000 ∧ a.den ≤ 12 ∧ p < many
  | _ => True
structure OkG (g : Gr) : Prop where
  l1 : 1 ≤ g.length
  l6 : g.length ≤ 6
  ex : ∀ p ∈ g, p.ex ≤ 3
  p1 : ∀ p ∈ g, 1 ≤ p.pts.length
  p16 : ∀ p ∈ g, p.pts.length ≤ 16
  all : (g.map fun p => p.pts.length).sum ≤ 40
  pt : ∀ p ∈ g, ∀ x ∈ p.pts, OkPt g p.ex p.pts.length x
/-! ### it is plain -/
/-! ### what the program's checks say -/
section
variable {h : IH} {g : Gr}
theorem okV_dB {b : Rat × Nat} : okV h (dB b) = .ok (dB b) h := rfl
theorem okV_iD {n : Nat} : okV h (iD n) = .ok (iD n) h := rfl
end
end Zc
/-! G1L: graphs that are right are made. -/
namespace Zc
open PySem L2 Z Q
section
variable {h : IH} {g : Gr}
theorem OkB.rb {many : Nat} {b : Rat × Nat} (o : OkB many b) : RB 7 b.1 := by
  obtain ⟨h1, h2, h3, _⟩ := o
  have hd := b.1.den_pos
  exact ⟨by unfold Bit; omega, by unfold Bit; omega⟩
theorem ixM_iD {ds : List D} {n : Nat} : ixM (.tup ds) (iD n) h = match ds[n]? with
  | some d => .ok d h
  | none => .stuck := by
  cases e : ds[n]? with
  | some d =>
    have := atI_of e
    simp [iD, this]
  | none =>
    have : atI ds (n : Int) = none := by
      unfold atI ixN
      have := List.getElem?_eq_none_iff.mp e
      rw [if_pos (by omega), if_neg (by omega)] <;> rfl
    simp [iD, this]
theorem okV_dP {p : Pr} : okV h (dP p) = .ok (dP p) h := rfl
theorem okV_dG : okV h (dG g) = .ok (dG g) h := rfl
theorem okV_dPt {x : Pt} : okV h (dPt x) = .ok (dPt x) h := by cases x <;> rfl
theorem iD_def {n : Nat} : D.int (n : Int) = iD n := rfl
/-! ### graphs -/
def gF (g : Gr) : List (Str × D) := [("procedures", dG g)]
theorem insAt_ref {n : Nat} {c : Str} {fs : List (Str × D)} (e : h[n]? = some (.ins c fs)) : insAt h (.ref n) = some (n, c, fs) := by
  unfold insAt
  simp only [e]
theorem okF_one {c f : Str} : okF [c] f c f = true := by simp [okF]
end
end Zc
/-! G1R: the law's own rationals (second kind); draws from the stream at 1. -/
namespace Zc
open PySem L2 Z Q
section
variable {h : IH} {n d : Int} {a b : Rat} {k l : Nat}
end
/-! ### the stream of a law: it stands at 1, its cells at 0 -/
def St (n : Nat) (h : IH) : Prop := ∃ (ns : List Int) (c k : Int), h[1]? = some (.lst [.ref 0, .int c, .int k]) ∧ h[0]? = some (.lst (ns.map .int)) ∧ 0 ≤ c ∧ 0 ≤ k ∧ k ≤ n
theorem St.lt {n : Nat} {h : IH} (w : St n h) : 2 ≤ h.length := by
  obtain ⟨ns, c, k, h1, _⟩ := w
  exact (List.getElem?_eq_some_iff.mp h1).1
theorem St.mono {n m : Nat} {h : IH} (w : St n h) (c : n ≤ m) : St m h := by
  obtain ⟨ns, c', k, h1, h2, h4, h5, h6⟩ := w
  exact ⟨ns, c', k, h1, h2, h4, h5, by omega⟩
theorem St.of {n : Nat} {h h' : IH} (w : St n h) (e0 : h'[0]? = h[0]?) (e1 : h'[1]? = h[1]?) : St n h' := by
  obtain ⟨ns, c', k, h1, h2, h3⟩ := w
  exact ⟨ns, c', k, e1.trans h1, e0.trans h2, h3⟩
theorem St.app {n : Nat} {h g : IH} (w : St n h) : St n (h ++ g) :=
  w.of (List.getElem?_append_left (by have := w.lt; omega)) (List.getElem?_append_left (by have := w.lt; omega))
theorem St.set {n i : Nat} {h : IH} {o : IO} (w : St n h) (hi : 2 ≤ i) : St n (h.set i o) :=
  w.of (List.getElem?_set_ne (by omega)) (List.getElem?_set_ne (by omega))
/-- from h to h': the stream goes on, what stood stands -/
structure Gw (n : Nat) (h h' : IH) : Prop where
  st : St n h'
  len : h.length ≤ h'.length
  keep : ∀ i, 2 ≤ i → i < h.length → h'[i]? = h[i]?
theorem Gw.refl {n : Nat} {h : IH} (w : St n h) : Gw n h h := ⟨w, Nat.le_refl _, fun _ _ _ => rfl⟩
theorem Gw.trans {n m : Nat} {h h' h'' : IH} (w : Gw n h h') (v : Gw m h' h'') : Gw m h h'' := ⟨v.st, Nat.le_trans w.len v.len, fun i h2 hi => (v.keep i h2 (Nat.lt_of_lt_of_le hi w.len)).trans (w.keep i h2 hi)⟩
theorem Gw.mono {n m : Nat} {h h' : IH} (w : Gw n h h') (c : n ≤ m) : Gw m h h' := ⟨w.st.mono c, w.len, w.keep⟩
theorem Gw.get {n : Nat} {h h' : IH} (w : Gw n h h') {i : Nat} {o : IO} (e : h[i]? = some o) (h2 : 2 ≤ i) : h'[i]? = some o := (w.keep i h2 (List.getElem?_eq_some_iff.mp e).1).trans e
theorem Gw.app {n : Nat} {h g : IH} (w : St n h) : Gw n h (h ++ g) := ⟨w.app, by simp, fun i _ hi => List.getElem?_append_left hi⟩
theorem Gw.set {n i : Nat} {h h' : IH} {o : IO} (w : Gw n h h') (hi : h.length ≤ i) (h2 : 2 ≤ i) : Gw n h (h'.set i o) :=
  ⟨w.st.set h2, by rw [List.length_set]; exact w.len, fun j j2 hj => by rw [List.getElem?_set_ne (by omega)]; exact w.keep j j2 hj⟩
end Zc
/-! G1C: comprehensions and walks that draw. -/
namespace Zc
open PySem L2 Z Q
/-- side by side -/
inductive Al {α β : Type} (P : β → α → Prop) : List β → List α → Prop where
  | nil : Al P [] []
  | cons {b : β} {a : α} {bs : List β} {as : List α} : P b a → Al P bs as → Al P (b :: bs) (a :: as)
theorem Al.length {α β : Type} {P : β → α → Prop} {bs : List β} {as : List α} (w : Al P bs as) : as.length = bs.length := by
  induction w with
  | nil => rfl
  | cons _ _ ih => simp [ih]
theorem Al.all {α β : Type} {P : β → α → Prop} {Q : α → Prop} (f : ∀ b a, P b a → Q a) {bs : List β} {as : List α} (w : Al P bs as) : ∀ a ∈ as, Q a := by
  induction w with
  | nil => intro a h; cases h
  | cons p _ ih =>
    intro a h
    rcases List.mem_cons.mp h with rfl | h
    · exact f _ _ p
    · exact ih a h
theorem Al.get {α β : Type} {P : β → α → Prop} {bs : List β} {as : List α} (w : Al P bs as) : ∀ {i : Nat} {a : α}, as[i]? = some a → ∃ b, bs[i]? = some b ∧ P b a := by
  induction w with
  | nil => intro i a h; cases h
  | cons p _ ih =>
    intro i a h
    cases i with
    | zero => cases h; exact ⟨_, rfl, p⟩
    | succ i => exact ih h
section
variable {α β : Type} {f : β → D} {r : α → D} {P : β → α → Prop} {g : MG} {me : ME} {env : Ev}
end
section
variable {mi : MI} {own : List Nat} {g : MG} {me : ME} {env : Ev} {h h1 h2 : IH} {ds ys : List D}
end
theorem rngD_map {n : Nat} : rngD 0 n = (List.range n).map iD := by
  unfold rngD
  rw [List.range_eq_range']
  refine List.ext_getElem (by simp) fun i _ _ => ?_
  simp [iD]
end Zc
/-! G1P: points drawn. -/
namespace Zc
open PySem L2 Z Q
end Zc
/-! G1V: points and procedures drawn. -/
namespace Zc
open PySem L2 Z Q
/-- what the masses want: chances over divisors of 2520, choices only where they are let -/
def Ti (ch : Bool) : Pt → Prop
  | .draw bs => ∀ b ∈ bs, b.1.den ∣ 2520
  | .choose _ => ch = true
  | _ => True
def dC (c : Nat × Nat) : D := .tup [iD c.1, iD c.2]
end Zc
/-! G1W: procedures, graphs and places drawn. -/
namespace Zc
open PySem L2 Z Q
/-! ### graphs -/
/-- what is drawn -/
structure DG (g : Gr) : Prop where
  ok : OkG g
  l3 : g.length ≤ 3
  ex2 : ∀ p ∈ g, p.ex ≤ 2
  p5 : ∀ p ∈ g, p.pts.length ≤ 5
end Zc
/-! G1X: graphs and places drawn. -/
namespace Zc
open PySem L2 Z Q
/-- a place of a graph -/
def inG (g : Gr) (c : Nat × Nat) : Prop := ∃ p, g[c.1]? = some p ∧ c.2 < p.pts.length
end Zc
/-! G1J: graphs that stand; rejecting. -/
namespace Zc
open PySem L2 Z Q
/-- what stood stands -/
structure Ap (h h' : IH) : Prop where
  len : h.length ≤ h'.length
  keep : ∀ i, i < h.length → h'[i]? = h[i]?
section
variable {h h' h'' g : IH} {d : D} {o : IO} {i k n : Nat}
theorem Ap.refl : Ap h h := ⟨Nat.le_refl _, fun _ _ => rfl⟩
theorem Ap.trans (w : Ap h h') (v : Ap h' h'') : Ap h h'' := ⟨Nat.le_trans w.len v.len, fun i hi => (v.keep i (Nat.lt_of_lt_of_le hi w.len)).trans (w.keep i hi)⟩
theorem Ap.app : Ap h (h ++ g) := ⟨by simp, fun i hi => List.getElem?_append_left hi⟩
theorem Ap.set (w : Ap h h') (hi : h.length ≤ i) : Ap h (h'.set i o) := ⟨by rw [List.length_set]; exact w.len, fun j hj => by rw [List.getElem?_set_ne (by omega)]; exact w.keep j hj⟩
theorem Ap.get (w : Ap h h') (e : h[i]? = some o) : h'[i]? = some o := (w.keep i (List.getElem?_eq_some_iff.mp e).1).trans e
theorem Ap.take (w : Ap h h') : h'.take h.length = h := by
  refine List.ext_getElem? fun i => ?_
  by_cases c : i < h.length
  · rw [List.getElem?_take_of_lt c]
    exact w.keep i c
  · rw [List.getElem?_eq_none (by simp; omega), List.getElem?_eq_none (by omega)]
theorem trunc_ap (w : Ap h h') (c : d.lt h.length = true) : trunc h (.ok d h') = .ok d h := by
  rw [trunc_ok, if_pos ⟨c, w.take⟩]
end
/-! ### comprehensions over lists that stand -/
/-! ### a graph that stands -/
def isG (h : IH) (n : Nat) (g : Gr) : Prop := h[n]? = some (.ins "Graph" (gF g))
section
variable {h : IH} {g : Gr} {n : Nat}
end
/-! ### rejecting -/
section
variable {cs : List (Nat × Nat)} {g : Gr}
end
end Zc
/-! G2P: the places of a graph. -/
namespace Zc
open PySem L2 Z Q
def pl (g : Gr) : List (Nat × Nat) := g.zipIdx.flatMap fun q => (List.range q.1.pts.length).map fun j => (q.2, j)
theorem pl_len {g : Gr} : (pl g).length = (g.map fun p => p.pts.length).sum := by
  unfold pl
  have : ∀ (g : Gr) (k : Nat), ((g.zipIdx k).flatMap fun q => (List.range q.1.pts.length).map fun j => (q.2, j)).length = (g.map fun p => p.pts.length).sum := fun g => by
    induction g with
    | nil => intro k; rfl
    | cons p g ih => intro k; rw [List.zipIdx_cons, List.flatMap_cons, List.length_append, ih]; simp
  exact this g 0
theorem mem_pl {g : Gr} {c : Nat × Nat} : c ∈ pl g ↔ inG g c := by
  unfold pl inG
  rw [List.mem_flatMap]
  constructor
  · rintro ⟨⟨p, i⟩, h1, h2⟩
    obtain ⟨j, h3, rfl⟩ := List.mem_map.mp h2
    exact ⟨p, List.mem_zipIdx_iff_getElem?.mp h1, List.mem_range.mp h3⟩
  · rintro ⟨p, h1, h2⟩
    exact ⟨(p, c.1), List.mem_zipIdx_iff_getElem?.mpr h1, List.mem_map.mpr ⟨c.2, List.mem_range.mpr h2, rfl⟩⟩
end Zc
/-! W1: stepping through mirrors: what is wanted behind an expression, a statement. -/
namespace Zc
open PySem L2 Z Q
/-- behind an expression -/
@[irreducible] def rp {α : Type} (r : R α) (Q : α → IH → Prop) (X : Exc → IH → Prop) : Prop := match r with
  | .ok a h => Q a h
  | .exc x h => X x h
  | .stuck => False
/-- behind a statement -/
structure Ct where
  nx : Ev → IH → Prop
  rt : D → IH → Prop
  bk : Ev → IH → Prop
  ct : Ev → IH → Prop
  xc : Exc → Ev → IH → Prop
@[irreducible] def sp (r : RS) (c : Ct) : Prop := match r with
  | .nx e h => c.nx e h
  | .rt d h => c.rt d h
  | .bk e h => c.bk e h
  | .ct e h => c.ct e h
  | .exc x e h => c.xc x e h
  | .stuck => False
abbrev noX : Exc → IH → Prop := fun _ _ => False
section
variable {α β : Type} {r : R α} {Q Q' : α → IH → Prop} {X X' : Exc → IH → Prop} {h h' h1 h2 : IH} {c : Ct} {env : Ev}
theorem rp_okI {a : α} : rp (.ok a h) Q X ↔ Q a h := by unfold rp; exact Iff.rfl
theorem rp_excI {x : Exc} : rp (.exc x h) Q X ↔ X x h := by unfold rp; exact Iff.rfl
theorem rp_stuckI : rp .stuck Q X ↔ False := by unfold rp; exact Iff.rfl
theorem sp_nxI {e : Ev} : sp (.nx e h) c ↔ c.nx e h := by unfold sp; exact Iff.rfl
theorem sp_rtI {d : D} : sp (.rt d h) c ↔ c.rt d h := by unfold sp; exact Iff.rfl
theorem sp_bkI {e : Ev} : sp (.bk e h) c ↔ c.bk e h := by unfold sp; exact Iff.rfl
theorem sp_ctI {e : Ev} : sp (.ct e h) c ↔ c.ct e h := by unfold sp; exact Iff.rfl
theorem sp_excI {x : Exc} {e : Ev} : sp (.exc x e h) c ↔ c.xc x e h := by unfold sp; exact Iff.rfl
theorem sp_stuckI : sp .stuck c ↔ False := by unfold sp; exact Iff.rfl
theorem rp_ok {a : α} (H : Q a h) : rp (.ok a h) Q X := rp_okI.mpr H
theorem rp_eq {a : α} (e : r = .ok a h) (H : Q a h) : rp r Q X := by rw [e]; exact rp_ok H
theorem rp_to (H : rp r Q noX) : ∃ a h, r = .ok a h ∧ Q a h := by
  cases r with
  | ok a h => exact ⟨a, h, rfl, rp_okI.mp H⟩
  | exc x h => exact (rp_excI.mp H).elim
  | stuck => exact (rp_stuckI.mp H).elim
theorem rp_to' {v : α} (H : rp r (fun d g => d = v ∧ g = h) noX) : r = .ok v h := by
  obtain ⟨a, g, e, rfl, rfl⟩ := rp_to H
  exact e
theorem rp_mono (H : rp r Q X) (q : ∀ a g, Q a g → Q' a g) (x : ∀ y g, X y g → X' y g) : rp r Q' X' := by
  cases r with
  | ok a h => exact rp_ok (q _ _ (rp_okI.mp H))
  | exc y g => exact rp_excI.mpr (x _ _ (rp_excI.mp H))
  | stuck => exact (rp_stuckI.mp H).elim
theorem rp_bind {f : α → IH → R β} {Q : β → IH → Prop} (H : rp r (fun a h => rp (f a h) Q X) X) : rp (r.bindG .exc .stuck f) Q X := by
  cases r with
  | ok a h => exact rp_okI.mp H
  | exc y g => exact rp_excI.mpr (rp_excI.mp H)
  | stuck => exact (rp_stuckI.mp H).elim
theorem rp_thenS {f : α → IH → RS} (H : rp r (fun a h => sp (f a h) c) fun x h => c.xc x env h) : sp (r.bindG (fun x h => .exc x env h) .stuck f) c := by
  cases r with
  | ok a h => exact rp_okI.mp H
  | exc y g => exact sp_excI.mpr (rp_excI.mp H)
  | stuck => exact (rp_stuckI.mp H).elim
theorem rp_bindO {f : α → β} {Q : β → IH → Prop} (H : rp r (fun a h => Q (f a) h) X) : rp (r.bindG .exc .stuck fun a h => .ok (f a) h) Q X := rp_bind (rp_mono H (fun _ _ q => rp_ok q) fun _ _ q => q)
end
section
variable {Q : D → IH → Prop} {X : Exc → IH → Prop} {h : IH} {env : Ev} {ma mb mo mi' : ME} {mt : MT} {ms : MA} {m1 m2 : MS} {c : Ct} {i : Nat}
/-! ### expressions -/
theorem rp_bin {o : MO} (H : rp (ma env h) (fun x h => rp (mb env h) (fun y h => rp (o x y h) Q X) X) X) : rp (binM o ma mb env h) Q X := by
  refine rp_bind ?_
  exact rp_mono H (fun a g q => rp_bind q) fun _ _ q => q
theorem rp_call {F : MF} (H : rp (ms env h) (fun ds h => rp (F ds h) Q X) X) : rp (callM F ms env h) Q X := rp_bind H
theorem rp_anil {Q : List D → IH → Prop} (H : Q [] h) : rp (anilM env h) Q X := rp_ok H
theorem rp_acons {Q : List D → IH → Prop} (H : rp (ma env h) (fun d h => rp (ms env h) (fun ds h => Q (d :: ds) h) X) X) : rp (aconsM ma ms env h) Q X := by
  refine rp_bind ?_
  exact rp_mono H (fun a g q => rp_bindO (f := fun ds => a :: ds) q) fun _ _ q => q
/-- a list is laid: it stands at k -/
def New (h : IH) (xs : List D) (Q : D → IH → Prop) : Prop := ∀ (k : Nat) (h' : IH), Ap h h' → h'[k]? = some (.lst xs) → h.length ≤ k → h'.length = k + 1 → Q (.ref k) h'
theorem New.at {xs : List D} (H : New h xs Q) : Q (.ref h.length) (h ++ [.lst xs]) := H _ _ .app List.getElem?_concat_length (Nat.le_refl _) (by simp)
theorem rp_lst (H : rp (ms env h) (fun ds h => ds.length ≤ 16777216 ∧ New h ds Q) X) : rp (lstM ms env h) Q X := by
  refine rp_bind ?_
  refine rp_mono H (fun a g q => ?_) fun _ _ q => q
  rw [if_pos (le_line q.1)]
  exact rp_ok q.2.at
/-! ### tests -/
section
variable {Q : Bool → IH → Prop} {mt' : MT}
theorem rp_test (H : rp (ma env h) (fun d h => ∃ b, truB h d = some b ∧ Q b h) X) : rp (testM ma env h) Q X := by
  refine rp_bind ?_
  refine rp_mono H (fun a g q => ?_) fun _ _ q => q
  obtain ⟨b, e, q⟩ := q
  rw [e]
  exact rp_ok q
theorem rp_btest (H : rp (ma env h) (fun d h => ∃ b, d = .bl b ∧ Q b h) X) : rp (btestM ma env h) Q X := by
  refine rp_bind ?_
  refine rp_mono H (fun a g q => ?_) fun _ _ q => q
  obtain ⟨b, rfl, q⟩ := q
  exact rp_ok q
theorem rp_tnot (H : rp (mt env h) (fun b h => Q (!b) h) X) : rp (tnotM mt env h) Q X := rp_bindO (f := fun b => !b) H
end
/-! ### statements -/
theorem sp_seq (H : sp (m1 env h) { c with nx := fun e h => sp (m2 e h) c }) : sp (seqM m1 m2 env h) c := by
  rw [seqM_eq]
  cases q : m1 env h with
  | nx e h => rw [q] at H; (have z := sp_nxI.mp H; exact z)
  | rt d h => rw [q] at H; (have z := sp_rtI.mp H; exact sp_rtI.mpr z)
  | bk e h => rw [q] at H; (have z := sp_bkI.mp H; exact sp_bkI.mpr z)
  | ct e h => rw [q] at H; (have z := sp_ctI.mp H; exact sp_ctI.mpr z)
  | exc x e h => rw [q] at H; (have z := sp_excI.mp H; exact sp_excI.mpr z)
  | stuck => rw [q] at H; (have z := sp_stuckI.mp H; exact z.elim)
theorem sp_set (H : rp (ma env h) (fun d h => c.nx (env.set i (some d)) h) fun x h => c.xc x env h) : sp (setM i ma env h) c := rp_thenS (rp_mono H (fun _ _ q => sp_nxI.mpr q) fun _ _ q => q)
theorem sp_if (H : rp (mt env h) (fun b h => if b = true then sp (m1 env h) c else sp (m2 env h) c) fun x h => c.xc x env h) : sp (ifM mt m1 m2 env h) c := by
  refine rp_thenS (rp_mono H (fun a g q => ?_) fun _ _ q => q)
  cases a <;> exact q
theorem sp_ret (H : rp (ma env h) c.rt fun x h => c.xc x env h) : sp (retM ma env h) c := rp_thenS (rp_mono H (fun _ _ q => sp_rtI.mpr q) fun _ _ q => q)
theorem sp_retN (H : c.rt .non h) : sp (retNM env h) c := sp_rtI.mpr H
theorem sp_expr (H : rp (ma env h) (fun _ h => c.nx env h) fun x h => c.xc x env h) : sp (exprM ma env h) c := rp_thenS (rp_mono H (fun _ _ q => sp_nxI.mpr q) fun _ _ q => q)
theorem sp_next (H : c.nx env h) : sp (nextM env h) c := sp_nxI.mpr H
theorem sp_brk (H : c.bk env h) : sp (brkM env h) c := sp_bkI.mpr H
theorem sp_cont (H : c.ct env h) : sp (contM env h) c := sp_ctI.mpr H
theorem sp_asg {g : MG} (H : rp (ma env h) (fun d h => ∃ e, g d env = some e ∧ c.nx e h) fun x h => c.xc x env h) : sp (asgM g ma env h) c := by
  refine rp_thenS (rp_mono H (fun a k q => ?_) fun _ _ q => q)
  obtain ⟨e, z, q⟩ := q
  rw [z]
  exact sp_nxI.mpr q
theorem sp_par {j : Nat} (H : rp (ms env h) (fun ds h => ∃ d e, ds = [d, e] ∧ c.nx ((env.set i (some d)).set j (some e)) h) fun x h => c.xc x env h) : sp (parM i j ms env h) c := by
  refine rp_thenS (rp_mono H (fun a k q => ?_) fun _ _ q => q)
  obtain ⟨d, e, rfl, q⟩ := q
  exact sp_nxI.mpr q
theorem sp_put {p : MP} (H : rp (ma env h) (fun d h => rp (mo env h) (fun o h => rp (mi' env h) (fun i h => ∃ h', p o i d h = some h' ∧ c.nx env h') fun x h => c.xc x env h) fun x h => c.xc x env h) fun x h => c.xc x env h) : sp (putM p mo mi' ma env h) c := by
  refine rp_thenS (rp_mono H (fun a k q => rp_thenS (rp_mono q (fun a k q => rp_thenS (rp_mono q (fun a k q => ?_) fun _ _ q => q)) fun _ _ q => q)) fun _ _ q => q)
  obtain ⟨h', e, q⟩ := q
  rw [e]
  exact sp_nxI.mpr q
theorem sp_raise {x : Str} {fs : List Str} (H : rp (ms env h) (fun ds h => ds.length = fs.length ∧ fs.length ≤ 900 ∧ c.xc ⟨x, (fs.zip ds).reverse⟩ env h) fun x h => c.xc x env h) : sp (raiseM x fs ms env h) c := by
  refine rp_thenS (rp_mono H (fun a k q => ?_) fun _ _ q => q)
  rw [if_pos ⟨q.1, q.2.1⟩]
  exact sp_excI.mpr q.2.2
/-! ### walks -/
/-- slots written -/
def setsE (env : Ev) : List Nat → List (Option D) → Ev
  | s :: ss, v :: vs => (setsE env ss vs).set s v
  | _, _ => env
theorem setsE_nil {vs : List (Option D)} : setsE env [] vs = env := by cases vs <;> rfl
theorem setsE_cons {s : Nat} {ss : List Nat} {v : Option D} {vs : List (Option D)} : setsE env (s :: ss) (v :: vs) = (setsE env ss vs).set s v := rfl
end
section
variable {α : Type} {h h1 : IH} {env : Ev} {g : MG} {mb : MS} {mi : MI} {c : Ct} {f : α → D}
/-- the ends of a turn -/
def Turn (env : Ev) (ss : List Nat) (c : Ct) (I : List (Option D) → IH → Prop) : Ct where
  nx := fun e H => ∃ vs, e = setsE env ss vs ∧ I vs H
  ct := fun e H => ∃ vs, e = setsE env ss vs ∧ I vs H
  bk := c.nx
  rt := c.rt
  xc := c.xc
theorem turn_next {ss : List Nat} {I : List (Option D) → IH → Prop} {vs : List (Option D)} {e : Ev} {H : IH} (q : e = setsE env ss vs) (i : I vs H) : (Turn env ss c I).nx e H := ⟨vs, q, i⟩
theorem forS_sp (ss : List Nat) (I : Nat → List (Option D) → IH → Prop) (xs : List α)
    (step : ∀ i x vs H, xs[i]? = some x → I i vs H → ∃ e1, g (f x) (setsE env ss vs) = some e1 ∧ sp (mb e1 H) (Turn env ss c (I (i + 1))))
    (fin : ∀ vs H, I xs.length vs H → c.nx (setsE env ss vs) H) :
    ∀ (m i : Nat) (vs : List (Option D)) (H : IH), xs.length - i = m → i ≤ xs.length → I i vs H → sp (forS g mb ((xs.map f).drop i) (setsE env ss vs) H) c
  | 0, i, vs, H, hm, hi, q => by
    have : i = xs.length := by omega
    subst this
    rw [List.drop_of_length_le (by rw [List.length_map]; omega)]
    exact sp_nxI.mpr (fin vs H q)
  | m + 1, i, vs, H, hm, hi, q => by
    have hi' : i < xs.length := by omega
    obtain ⟨e1, h1, h2⟩ := step i xs[i] vs H (List.getElem?_eq_getElem hi') q
    have go : ∀ vs H, I (i + 1) vs H → sp (forS g mb ((xs.map f).drop (i + 1)) (setsE env ss vs) H) c := fun vs H q => forS_sp ss I xs step fin m (i + 1) vs H (by omega) hi' q
    rw [List.drop_eq_getElem_cons (by rw [List.length_map]; exact hi'), List.getElem_map, forS_cons, turnM_eq, h1]
    dsimp only
    cases r : mb e1 H with
    | nx e h => rw [r] at h2; obtain ⟨vs, rfl, q⟩ := sp_nxI.mp h2; exact go vs h q
    | ct e h => rw [r] at h2; obtain ⟨vs, rfl, q⟩ := sp_ctI.mp h2; exact go vs h q
    | bk e h => rw [r] at h2; (have z := sp_bkI.mp h2; exact sp_nxI.mpr z)
    | rt d h => rw [r] at h2; (have z := sp_rtI.mp h2; exact sp_rtI.mpr z)
    | exc x e h => rw [r] at h2; (have z := sp_excI.mp h2; exact sp_excI.mpr z)
    | stuck => rw [r] at h2; (have z := sp_stuckI.mp h2; exact z.elim)
/-- a for over what stands still -/
theorem sp_for (ss : List Nat) (xs : List α) (f : α → D) (I : Nat → List (Option D) → IH → Prop) {vs : List (Option D)} (e : mi env h = .ok (.snap (xs.map f)) h1) (e0 : setsE env ss vs = env) (i0 : I 0 vs h1)
    (step : ∀ i x vs H, xs[i]? = some x → I i vs H → ∃ e1, g (f x) (setsE env ss vs) = some e1 ∧ sp (mb e1 H) (Turn env ss c (I (i + 1))))
    (fin : ∀ vs H, I xs.length vs H → c.nx (setsE env ss vs) H) : sp (Z.forM mi g mb env h) c := by
  rw [forM_eq, e]
  have := forS_sp (f := f) ss I xs step fin xs.length 0 vs h1 rfl (Nat.zero_le _) i0
  rw [List.drop_zero, e0] at this
  exact this
end
/-! ### while -/
section
variable {h : IH} {env : Ev} {mt : MT} {mb : MS} {c : Ct}
end
/-! ### comprehensions -/
section
variable {α : Type} {h h1 : IH} {env : Ev} {g : MG} {mt : MT} {me : ME} {mi : MI} {f : α → D} {own : List Nat} {Q : D → IH → Prop} {X : Exc → IH → Prop}
/-- one item -/
def ItJ (mt : MT) (me : ME) (e : Ev) (H : IH) (acc : List D) (J : List D → IH → Prop) : Prop := rp (mt e H) (fun b H => if b = true then rp (me e H) (fun d H => J (acc ++ [d]) H) noX else J acc H) noX
/-- each item by itself, the heap as before: those of which b holds, r of each -/
def ItF (mt : MT) (me : ME) (e : Ev) (H : IH) (b : Bool) (d : D) : Prop := mt e H = .ok b H ∧ (b = true → me e H = .ok d H)
theorem ItF.j {e : Ev} {H : IH} {b : Bool} {d : D} {acc : List D} {J : List D → IH → Prop} (w : ItF mt me e H b d) (j : J (if b = true then acc ++ [d] else acc) H) : ItJ mt me e H acc J := by
  unfold ItJ
  rw [w.1]
  refine rp_ok ?_
  cases b with
  | false => exact j
  | true =>
    show rp (me e H) _ _
    rw [w.2 rfl]
    exact rp_ok j
end
/-! ### defs -/
section
variable {Q : D → IH → Prop} {X : Exc → IH → Prop} {h h' : IH} {d : D} {n k : Nat} {m : MS} {ds : List D}
/-- behind a def: what it made is forgotten, if it hands nothing of it out -/
def tq (h : IH) (Q : D → IH → Prop) (d : D) (h' : IH) : Prop := rp (trunc h (.ok d h')) Q noX
def tx (h : IH) (X : Exc → IH → Prop) (x : Exc) (h' : IH) : Prop := rp (trunc h (.exc x h')) (fun _ _ => False) X
def dct (h : IH) (Q : D → IH → Prop) (X : Exc → IH → Prop) : Ct := ⟨fun _ h' => tq h Q .non h', tq h Q, fun _ _ => False, fun _ _ => False, fun x _ h' => tx h X x h'⟩
theorem rp_def (H : sp (m (ds.map some ++ List.replicate (n - ds.length) none) h) (dct h Q X)) : rp (defM n m ds h) Q X := by
  have t1 : ∀ d h', tq h Q d h' → rp (trunc h (.ok d h')) Q X := fun d h' z => by
    obtain ⟨a, g, e, q⟩ := rp_to z
    rw [e]; exact rp_ok q
  have t2 : ∀ x h', tx h X x h' → rp (trunc h (.exc x h')) Q X := fun d h' z => by
    unfold tx at z
    exact rp_mono z (fun _ _ q => q.elim) fun _ _ q => q
  unfold defM
  cases q : m (ds.map some ++ List.replicate (n - ds.length) none) h with
  | nx e h => rw [q] at H; exact t1 _ _ (sp_nxI.mp H)
  | rt d h => rw [q] at H; exact t1 _ _ (sp_rtI.mp H)
  | bk e h => rw [q] at H; (have z := sp_bkI.mp H; exact z.elim)
  | ct e h => rw [q] at H; (have z := sp_ctI.mp H; exact z.elim)
  | exc x e h => rw [q] at H; exact t2 _ _ (sp_excI.mp H)
  | stuck => rw [q] at H; (have z := sp_stuckI.mp H; exact z.elim)
theorem tq_ap (w : Ap h h') (c : d.lt h.length = true) (H : Q d h) : tq h Q d h' := by unfold tq; rw [trunc_ap w c]; exact rp_ok H
theorem tq_same (H : Q d h) : tq h Q d h := by unfold tq; rw [trunc_same]; exact rp_ok H
end
/-! ### objects changed -/
section
variable {h : IH} {k : Nat} {xs : List D} {d : D} {Q : D → IH → Prop} {X : Exc → IH → Prop} {env : Ev} {mo : ME} {ms : MA}
/-- the object at k is changed, all others stand -/
structure Up (k : Nat) (h h' : IH) : Prop where
  len : h'.length = h.length
  keep : ∀ i, i ≠ k → h'[i]? = h[i]?
theorem Up.set {o : IO} : Up k h (h.set k o) := ⟨by simp, fun i hi => List.getElem?_set_ne (fun z => hi z.symm)⟩
theorem Up.get {h' : IH} {i : Nat} {o : IO} (w : Up k h h') (e : h[i]? = some o) (hi : i ≠ k) : h'[i]? = some o := (w.keep i hi).trans e
theorem Up.ap {h0 h' : IH} (w : Up k h h') (a : Ap h0 h) (c : h0.length ≤ k) : Ap h0 h' := ⟨by rw [w.len]; exact a.len, fun i hi => (w.keep i (by omega)).trans (a.keep i hi)⟩
end
section
variable {h h1 : IH} {env : Ev} {ms : MA} {n : Nat} {P : Nat → IH → Prop} {r : R D}
theorem rng_n (e : ms env h = .ok [iD n] h1) (hn : n ≤ 1000000000) : rngI1 ms env h = .ok (.snap ((List.range n).map iD)) h1 := by
  rw [← rngD_map]
  exact rngI1_int e (by omega) (by omega) (by omega)
theorem range_at {i x : Nat} (hx : (List.range n)[i]? = some x) : i = x ∧ i < n := by
  have hi := (List.getElem?_eq_some_iff.mp hx).1
  rw [List.length_range] at hi
  rw [List.getElem?_range hi] at hx
  cases hx
  exact ⟨rfl, hi⟩
theorem wipeE_nil : wipeE env [] = env := rfl
theorem wipeE_cons {v : Nat} {vs : List Nat} : wipeE env (v :: vs) = (wipeE env vs).set v none := rfl
end
/-! words -/
section
variable {h : IH}
@[simp] theorem ww_exit_exit : eqM (.str "exit") (.str "exit") h = .ok (.bl true) h := by rw [str_eq]; rfl
@[simp] theorem ww_exit_draw : eqM (.str "exit") (.str "draw") h = .ok (.bl false) h := by rw [str_eq]; rfl
@[simp] theorem ww_exit_choose : eqM (.str "exit") (.str "choose") h = .ok (.bl false) h := by rw [str_eq]; rfl
@[simp] theorem ww_exit_call : eqM (.str "exit") (.str "call") h = .ok (.bl false) h := by rw [str_eq]; rfl
@[simp] theorem ww_exit_reward : eqM (.str "exit") (.str "reward") h = .ok (.bl false) h := by rw [str_eq]; rfl
@[simp] theorem ww_exit_reject : eqM (.str "exit") (.str "reject") h = .ok (.bl false) h := by rw [str_eq]; rfl
@[simp] theorem ww_exit_stop : eqM (.str "exit") (.str "stop") h = .ok (.bl false) h := by rw [str_eq]; rfl
@[simp] theorem ww_draw_exit : eqM (.str "draw") (.str "exit") h = .ok (.bl false) h := by rw [str_eq]; rfl
@[simp] theorem ww_draw_draw : eqM (.str "draw") (.str "draw") h = .ok (.bl true) h := by rw [str_eq]; rfl
@[simp] theorem ww_draw_choose : eqM (.str "draw") (.str "choose") h = .ok (.bl false) h := by rw [str_eq]; rfl
@[simp] theorem ww_draw_call : eqM (.str "draw") (.str "call") h = .ok (.bl false) h := by rw [str_eq]; rfl
@[simp] theorem ww_draw_reward : eqM (.str "draw") (.str "reward") h = .ok (.bl false) h := by rw [str_eq]; rfl
@[simp] theorem ww_draw_reject : eqM (.str "draw") (.str "reject") h = .ok (.bl false) h := by rw [str_eq]; rfl
@[simp] theorem ww_draw_stop : eqM (.str "draw") (.str "stop") h = .ok (.bl false) h := by rw [str_eq]; rfl
@[simp] theorem ww_choose_exit : eqM (.str "choose") (.str "exit") h = .ok (.bl false) h := by rw [str_eq]; rfl
@[simp] theorem ww_choose_draw : eqM (.str "choose") (.str "draw") h = .ok (.bl false) h := by rw [str_eq]; rfl
@[simp] theorem ww_choose_choose : eqM (.str "choose") (.str "choose") h = .ok (.bl true) h := by rw [str_eq]; rfl
@[simp] theorem ww_choose_call : eqM (.str "choose") (.str "call") h = .ok (.bl false) h := by rw [str_eq]; rfl
@[simp] theorem ww_choose_reward : eqM (.str "choose") (.str "reward") h = .ok (.bl false) h := by rw [str_eq]; rfl
@[simp] theorem ww_choose_reject : eqM (.str "choose") (.str "reject") h = .ok (.bl false) h := by rw [str_eq]; rfl
@[simp] theorem ww_choose_stop : eqM (.str "choose") (.str "stop") h = .ok (.bl false) h := by rw [str_eq]; rfl
@[simp] theorem ww_call_exit : eqM (.str "call") (.str "exit") h = .ok (.bl false) h := by rw [str_eq]; rfl
@[simp] theorem ww_call_draw : eqM (.str "call") (.str "draw") h = .ok (.bl false) h := by rw [str_eq]; rfl
@[simp] theorem ww_call_choose : eqM (.str "call") (.str "choose") h = .ok (.bl false) h := by rw [str_eq]; rfl
@[simp] theorem ww_call_call : eqM (.str "call") (.str "call") h = .ok (.bl true) h := by rw [str_eq]; rfl
@[simp] theorem ww_call_reward : eqM (.str "call") (.str "reward") h = .ok (.bl false) h := by rw [str_eq]; rfl
@[simp] theorem ww_call_reject : eqM (.str "call") (.str "reject") h = .ok (.bl false) h := by rw [str_eq]; rfl
@[simp] theorem ww_call_stop : eqM (.str "call") (.str "stop") h = .ok (.bl false) h := by rw [str_eq]; rfl
@[simp] theorem ww_reward_exit : eqM (.str "reward") (.str "exit") h = .ok (.bl false) h := by rw [str_eq]; rfl
@[simp] theorem ww_reward_draw : eqM (.str "reward") (.str "draw") h = .ok (.bl false) h := by rw [str_eq]; rfl
@[simp] theorem ww_reward_choose : eqM (.str "reward") (.str "choose") h = .ok (.bl false) h := by rw [str_eq]; rfl
@[simp] theorem ww_reward_call : eqM (.str "reward") (.str "call") h = .ok (.bl false) h := by rw [str_eq]; rfl
@[simp] theorem ww_reward_reward : eqM (.str "reward") (.str "reward") h = .ok (.bl true) h := by rw [str_eq]; rfl
@[simp] theorem ww_reward_reject : eqM (.str "reward") (.str "reject") h = .ok (.bl false) h := by rw [str_eq]; rfl
@[simp] theorem ww_reward_stop : eqM (.str "reward") (.str "stop") h = .ok (.bl false) h := by rw [str_eq]; rfl
@[simp] theorem ww_reject_exit : eqM (.str "reject") (.str "exit") h = .ok (.bl false) h := by rw [str_eq]; rfl
@[simp] theorem ww_reject_draw : eqM (.str "reject") (.str "draw") h = .ok (.bl false) h := by rw [str_eq]; rfl
@[simp] theorem ww_reject_choose : eqM (.str "reject") (.str "choose") h = .ok (.bl false) h := by rw [str_eq]; rfl
@[simp] theorem ww_reject_call : eqM (.str "reject") (.str "call") h = .ok (.bl false) h := by rw [str_eq]; rfl
@[simp] theorem ww_reject_reward : eqM (.str "reject") (.str "reward") h = .ok (.bl false) h := by rw [str_eq]; rfl
@[simp] theorem ww_reject_reject : eqM (.str "reject") (.str "reject") h = .ok (.bl true) h := by rw [str_eq]; rfl
@[simp] theorem ww_reject_stop : eqM (.str "reject") (.str "stop") h = .ok (.bl false) h := by rw [str_eq]; rfl
@[simp] theorem ww_stop_exit : eqM (.str "stop") (.str "exit") h = .ok (.bl false) h := by rw [str_eq]; rfl
@[simp] theorem ww_stop_draw : eqM (.str "stop") (.str "draw") h = .ok (.bl false) h := by rw [str_eq]; rfl
@[simp] theorem ww_stop_choose : eqM (.str "stop") (.str "choose") h = .ok (.bl false) h := by rw [str_eq]; rfl
@[simp] theorem ww_stop_call : eqM (.str "stop") (.str "call") h = .ok (.bl false) h := by rw [str_eq]; rfl
@[simp] theorem ww_stop_reward : eqM (.str "stop") (.str "reward") h = .ok (.bl false) h := by rw [str_eq]; rfl
@[simp] theorem ww_stop_reject : eqM (.str "stop") (.str "reject") h = .ok (.bl false) h := by rw [str_eq]; rfl
@[simp] theorem ww_stop_stop : eqM (.str "stop") (.str "stop") h = .ok (.bl true) h := by rw [str_eq]; rfl
@[simp] theorem ixM_iD' {n : Nat} {ds : List D} : ixM (.tup ds) (iD n) h = match ds[n]? with
  | some x => .ok x h
  | none => .stuck := ixM_iD
end
section
variable {h h1 : IH} {env : Ev} {g : MG} {mb : MS} {ms : MA} {c : Ct}
/-- for i in range(n) -/
theorem sp_forR (ss : List Nat) (n : Nat) (I : Nat → List (Option D) → IH → Prop) {vs : List (Option D)} (e : ms env h = .ok [iD n] h1) (hn : n ≤ 1000000000) (e0 : setsE env ss vs = env) (i0 : I 0 vs h1)
    (step : ∀ i vs H, i < n → I i vs H → ∃ e1, g (iD i) (setsE env ss vs) = some e1 ∧ sp (mb e1 H) (Turn env ss c (I (i + 1))))
    (fin : ∀ vs H, I n vs H → c.nx (setsE env ss vs) H) : sp (Z.forM (rngI1 ms) g mb env h) c := by
  refine sp_for ss (List.range n) iD I (rng_n e hn) e0 i0 (fun i x vs H hx q => ?_) (fun vs H q => fin vs H (by rwa [List.length_range] at q))
  obtain ⟨rfl, hi⟩ := range_at hx
  exact step i vs H hi q
end
end Zc
/-! W2: fields, methods, stores, makes. -/
namespace Zc
open PySem L2 Z Q
section
variable {h : IH} {env : Ev} {ma mo : ME} {ms : MA} {c : Str} {m f : Str} {F : MF} {fok : Str → Str → Bool} {d v : D} {n : Nat} {fs : List (Str × D)}
variable {Q : D → IH → Prop} {X : Exc → IH → Prop} {ct : Ct}
end
section
variable {h : IH}
@[simp] theorem inDC_exit : inM false (.str "exit") (.tup [.str "draw", .str "choose"]) h = .ok (.bl false) h := by rfl
@[simp] theorem inDC_draw : inM false (.str "draw") (.tup [.str "draw", .str "choose"]) h = .ok (.bl true) h := by rfl
@[simp] theorem inDC_choose : inM false (.str "choose") (.tup [.str "draw", .str "choose"]) h = .ok (.bl true) h := by rfl
@[simp] theorem inDC_call : inM false (.str "call") (.tup [.str "draw", .str "choose"]) h = .ok (.bl false) h := by rfl
@[simp] theorem inDC_reward : inM false (.str "reward") (.tup [.str "draw", .str "choose"]) h = .ok (.bl false) h := by rfl
@[simp] theorem inDC_reject : inM false (.str "reject") (.tup [.str "draw", .str "choose"]) h = .ok (.bl false) h := by rfl
@[simp] theorem inDC_stop : inM false (.str "stop") (.tup [.str "draw", .str "choose"]) h = .ok (.bl false) h := by rfl
@[simp] theorem inFRS_finished : inM false (.str "finished") (.tup [.str "finished", .str "rejected", .str "stopped"]) h = .ok (.bl true) h := by rfl
@[simp] theorem ws_finished_finished : eqM (.str "finished") (.str "finished") h = .ok (.bl true) h := by rw [str_eq]; rfl
@[simp] theorem ws_finished_rejected : eqM (.str "finished") (.str "rejected") h = .ok (.bl false) h := by rw [str_eq]; rfl
@[simp] theorem ws_finished_stopped : eqM (.str "finished") (.str "stopped") h = .ok (.bl false) h := by rw [str_eq]; rfl
@[simp] theorem ws_finished_waiting : eqM (.str "finished") (.str "waiting") h = .ok (.bl false) h := by rw [str_eq]; rfl
@[simp] theorem ws_finished_running : eqM (.str "finished") (.str "running") h = .ok (.bl false) h := by rw [str_eq]; rfl
@[simp] theorem inFRS_rejected : inM false (.str "rejected") (.tup [.str "finished", .str "rejected", .str "stopped"]) h = .ok (.bl true) h := by rfl
@[simp] theorem ws_rejected_finished : eqM (.str "rejected") (.str "finished") h = .ok (.bl false) h := by rw [str_eq]; rfl
@[simp] theorem ws_rejected_rejected : eqM (.str "rejected") (.str "rejected") h = .ok (.bl true) h := by rw [str_eq]; rfl
@[simp] theorem ws_rejected_stopped : eqM (.str "rejected") (.str "stopped") h = .ok (.bl false) h := by rw [str_eq]; rfl
@[simp] theorem ws_rejected_waiting : eqM (.str "rejected") (.str "waiting") h = .ok (.bl false) h := by rw [str_eq]; rfl
@[simp] theorem ws_rejected_running : eqM (.str "rejected") (.str "running") h = .ok (.bl false) h := by rw [str_eq]; rfl
@[simp] theorem inFRS_stopped : inM false (.str "stopped") (.tup [.str "finished", .str "rejected", .str "stopped"]) h = .ok (.bl true) h := by rfl
@[simp] theorem ws_stopped_finished : eqM (.str "stopped") (.str "finished") h = .ok (.bl false) h := by rw [str_eq]; rfl
@[simp] theorem ws_stopped_rejected : eqM (.str "stopped") (.str "rejected") h = .ok (.bl false) h := by rw [str_eq]; rfl
@[simp] theorem ws_stopped_stopped : eqM (.str "stopped") (.str "stopped") h = .ok (.bl true) h := by rw [str_eq]; rfl
@[simp] theorem ws_stopped_waiting : eqM (.str "stopped") (.str "waiting") h = .ok (.bl false) h := by rw [str_eq]; rfl
@[simp] theorem ws_stopped_running : eqM (.str "stopped") (.str "running") h = .ok (.bl false) h := by rw [str_eq]; rfl
@[simp] theorem inFRS_waiting : inM false (.str "waiting") (.tup [.str "finished", .str "rejected", .str "stopped"]) h = .ok (.bl false) h := by rfl
@[simp] theorem ws_waiting_finished : eqM (.str "waiting") (.str "finished") h = .ok (.bl false) h := by rw [str_eq]; rfl
@[simp] theorem ws_waiting_rejected : eqM (.str "waiting") (.str "rejected") h = .ok (.bl false) h := by rw [str_eq]; rfl
@[simp] theorem ws_waiting_stopped : eqM (.str "waiting") (.str "stopped") h = .ok (.bl false) h := by rw [str_eq]; rfl
@[simp] theorem ws_waiting_waiting : eqM (.str "waiting") (.str "waiting") h = .ok (.bl true) h := by rw [str_eq]; rfl
@[simp] theorem ws_waiting_running : eqM (.str "waiting") (.str "running") h = .ok (.bl false) h := by rw [str_eq]; rfl
@[simp] theorem inFRS_running : inM false (.str "running") (.tup [.str "finished", .str "rejected", .str "stopped"]) h = .ok (.bl false) h := by rfl
@[simp] theorem ws_running_finished : eqM (.str "running") (.str "finished") h = .ok (.bl false) h := by rw [str_eq]; rfl
@[simp] theorem ws_running_rejected : eqM (.str "running") (.str "rejected") h = .ok (.bl false) h := by rw [str_eq]; rfl
@[simp] theorem ws_running_stopped : eqM (.str "running") (.str "stopped") h = .ok (.bl false) h := by rw [str_eq]; rfl
@[simp] theorem ws_running_waiting : eqM (.str "running") (.str "waiting") h = .ok (.bl false) h := by rw [str_eq]; rfl
@[simp] theorem ws_running_running : eqM (.str "running") (.str "running") h = .ok (.bl true) h := by rw [str_eq]; rfl
end
/-- two objects moved -/
structure Mv (r k : Nat) (h h' : IH) : Prop where
  len : h'.length = h.length
  keep : ∀ i, i ≠ r → i ≠ k → h'[i]? = h[i]?
theorem Mv.refl {r k : Nat} {h : IH} : Mv r k h h := ⟨rfl, fun _ _ _ => rfl⟩
theorem Mv.trans {r k : Nat} {h h' h'' : IH} (a : Mv r k h h') (b : Mv r k h' h'') : Mv r k h h'' := ⟨b.len.trans a.len, fun i h1 h2 => (b.keep i h1 h2).trans (a.keep i h1 h2)⟩
theorem Mv.ap {r k : Nat} {h0 h h' : IH} (w : Mv r k h h') (a : Ap h0 h) (c : h0.length ≤ r) (c2 : h0.length ≤ k) : Ap h0 h' := ⟨by rw [w.len]; exact a.len, fun i hi => (w.keep i (by omega) (by omega)).trans (a.keep i hi)⟩
theorem sp_asgL {n : Nat} {gs : MGs} {ma : ME} {env : Ev} {h : IH} {c : Ct} (H : rp (ma env h) (fun d h => ∃ ds e, lisOf h d = some ds ∧ ds.length = n ∧ gs ds env = some e ∧ c.nx e h) fun x h => c.xc x env h) : sp (asgLM n gs ma env h) c := by
  unfold asgLM
  refine rp_thenS (rp_mono H (fun d k q => ?_) fun _ _ q => q)
  obtain ⟨ds, e, h1, h2, h3, q⟩ := q
  rw [h1]
  dsimp only
  rw [if_pos h2, h3]
  exact sp_nxI.mpr q
end Zc
/-! W3: range of two, list of a list. -/
namespace Zc
open PySem L2 Z Q
section
variable {h h1 : IH} {env : Ev} {ms : MA} {k : Nat}
/-! ### try with several clauses -/
end
end Zc
/-! G3A: points of any graph drawn. -/
namespace Zc
open PySem L2 Z Q
def d60 (w : Nat) : D := dr (Rat.divInt (w : Int) 60)
end Zc
/-! G3B: any points and any graphs drawn. -/
namespace Zc
open PySem L2 Z Q
def Sz (qe qs : Nat) (szs : List (Nat × Nat)) (h : IH) : Prop := h[qe]? = some (.lst (szs.map fun s => iD s.1)) ∧ h[qs]? = some (.lst (szs.map fun s => iD s.2))
theorem Sz.ex {qe qs p : Nat} {szs : List (Nat × Nat)} {h : IH} {s : Nat × Nat} (w : Sz qe qs szs h) (e : szs[p]? = some s) : ixM (.ref qe) (.int (p : Int)) h = .ok (iD s.1) h := by
  rw [ixM_ref w.1, atI_of (x := iD s.1) (by rw [List.getElem?_map, e]; rfl)]
end Zc
/-! G3C: any graphs drawn. -/
namespace Zc
open PySem L2 Z Q
end Zc
/-! G1K: rejecting. -/
namespace Zc
open PySem L2 Z Q
section
variable {h : IH} {g : Gr} {n m : Nat} {cs : List (Nat × Nat)}
theorem isG.ap {h' : IH} (w : isG h n g) (a : Ap h h') : isG h' n g := a.get w
end
end Zc
/-! G3D: what a point names. -/
namespace Zc
open PySem L2 Z Q
section
variable {h : IH}
def tg : Pt → List Nat
  | .draw bs => bs.map Prod.snd
  | .choose ps => ps
  | .call _ ps => ps
  | .reward _ q => [q]
  | _ => []
def tgs (a : Nat) (x : Pt) : List (Nat × Nat) := (tg x).map (fun i => (a, i)) ++ match x with
  | .call q _ => [(q, 0)]
  | _ => []
def wd : Pt → Str
  | .exit _ => "exit" | .draw _ => "draw" | .choose _ => "choose" | .call _ _ => "call" | .reward _ _ => "reward" | .reject => "reject" | .stop => "stop"
theorem ix_wd {x : Pt} : ixM (dPt x) (.int 0) h = .ok (.str (wd x)) h := by cases x <;> simp [dPt, wd]
end
/-! ### comprehensions that choose -/
end Zc
/-! G3E: named, on both sides. -/
namespace Zc
open PySem L2 Z Q
def isP (g : Gr) (c : Nat × Nat) (x : Pt) : Prop := ∃ p, g[c.1]? = some p ∧ p.pts[c.2]? = some x
theorem isP.inG {g : Gr} {c : Nat × Nat} {x : Pt} (w : isP g c x) : inG g c := by
  obtain ⟨p, h1, h2⟩ := w
  exact ⟨p, h1, (List.getElem?_eq_some_iff.mp h2).1⟩
def nm (g : Gr) (c : Nat × Nat) (x : Pt) : List (Nat × Nat) := (pl g).filter fun o => decide (o ∈ tgs c.1 x)
section
variable {h : IH} {g : Gr} {n : Nat} {c : Nat × Nat} {x : Pt}
end
end Zc
/-! G3F: the law's places and what is named by them. -/
namespace Zc
open PySem L2 Z Q
section
variable {h : IH} {g : Gr}
variable {c : Nat × Nat} {x : Pt}
end
end Zc
/-! G3G: reached, on both sides. -/
namespace Zc
open PySem L2 Z Q
def ptAt (g : Gr) (c : Nat × Nat) : Option Pt := (g[c.1]?).bind fun p => p.pts[c.2]?
def new (g : Gr) (L : List (Nat × Nat)) (c : Nat × Nat) : List (Nat × Nat) := match ptAt g c with
  | some x => (nm g c x).filter fun o => !decide (o ∈ L)
  | none => []
section
variable {g : Gr}
theorem nodup_le {α : Type} [BEq α] [LawfulBEq α] : ∀ {xs ys : List α}, xs.Nodup → (∀ a ∈ xs, a ∈ ys) → xs.length ≤ ys.length
  | [], _, _, _ => by simp
  | x :: xs, ys, hn, hs => by
    obtain ⟨h1, h2⟩ := List.nodup_cons.mp hn
    have hx := hs x List.mem_cons_self
    have := nodup_le (xs := xs) (ys := ys.erase x) h2 fun a ha => (List.mem_erase_of_ne (fun e => by subst e; exact h1 ha)).mpr (hs a (List.mem_cons_of_mem _ ha))
    rw [List.length_erase_of_mem hx] at this
    have : 0 < ys.length := List.length_pos_of_mem hx
    simp only [List.length_cons]
    omega
/-- what is reached so far -/
structure Good (g : Gr) (L : List (Nat × Nat)) : Prop where
  nd : L.Nodup
  ok : ∀ c ∈ L, inG g c
  pos : 0 < L.length
theorem Good.le {L : List (Nat × Nat)} (w : Good g L) (ok : OkG g) : L.length ≤ 40 := by
  have := nodup_le w.nd fun c hc => mem_pl.mpr (w.ok c hc)
  rw [pl_len] at this
  have := ok.all
  omega
end
section
variable {h H : IH} {g : Gr} {n q i : Nat} {c : Nat × Nat} {L : List (Nat × Nat)}
end
end Zc
/-! G3H: reached, told. -/
namespace Zc
open PySem L2 Z Q
section
variable {h : IH} {g : Gr} {n : Nat} {c : Nat × Nat}
end
end Zc
/-! common mirrors -/
namespace Zc
open PySem PySem.Spec PyProof.Rows L2 Z
end Zc
/-! G4A: the chances of lengths, plain. -/
namespace Zc
open PySem L2 Z Q
/-- how many exits -/
def exN (g : Gr) (p : Nat) : Nat := match g[p]? with
  | some q => q.ex
  | none => 0
abbrev Tb := (Nat × Nat) → Nat → List Rat
def gt (R : List Rat) (i : Nat) : Rat := R.getD i 0
/-- of a call: the runs that come back -/
def callS (R : Tb) (l : Nat) (c : Nat × Nat) (w q : Nat) (ps : List (Nat × Nat)) (t : Rat) : Rat :=
  ps.foldl (fun t p => (List.range (l - 1)).foldl (fun t f => t + gt (R (q, 0) p.2) f * gt (R (c.1, p.1) w) (l - 2 - f)) t) t
def nxt (g : Gr) (R : Tb) (l : Nat) (c : Nat × Nat) (w : Nat) : Rat := match ptAt g c with
  | some (.exit e) => if l = 0 ∧ e = w then 1 else 0
  | some .reject => if l = 0 ∧ exN g c.1 = w then 1 else 0
  | some .stop => if l = 0 ∧ exN g c.1 + 1 = w then 1 else 0
  | some (.draw bs) => if l = 0 then 0 else bs.foldl (fun t b => t + b.1 * gt (R (c.1, b.2) w) (l - 1)) 0
  | some (.reward _ q) => if l = 0 then 0 else gt (R (c.1, q) w) (l - 1)
  | some (.call q ps) => if l = 0 then 0 else
      (if exN g c.1 ≤ w then callS R l c w q ps.zipIdx 0 + gt (R (q, 0) (ps.length + (w - exN g c.1))) (l - 1) else callS R l c w q ps.zipIdx 0)
  | _ => 0
def tab (g : Gr) : Nat → Tb
  | 0 => fun _ _ => []
  | n + 1 => fun c w => tab g n c w ++ [nxt g (tab g n) n c w]
/-- the chance of a length -/
def lenv (g : Gr) (l : Nat) (c : Nat × Nat) (w : Nat) : Rat := nxt g (tab g l) l c w
/-! ### the rules -/
section
variable {g : Gr} {l : Nat} {c : Nat × Nat} {w : Nat}
end
/-! ### sizes -/
/-- n over 2520 to the i, n at most N -/
def Fr (i N : Nat) (x : Rat) : Prop := ∃ n : Nat, n ≤ N ∧ x = (n : Rat) / ((2520 ^ i : Nat) : Rat)
theorem pw_ne (i : Nat) : ((2520 ^ i : Nat) : Rat) ≠ 0 := by
  have : 0 < 2520 ^ i := Nat.pow_pos (by decide)
  intro z
  have : (2520 ^ i : Nat) = 0 := by exact_mod_cast z
  omega
theorem Fr.add {i N M : Nat} {x y : Rat} : Fr i N x → Fr i M y → Fr i (N + M) (x + y) := by
  rintro ⟨n, hn, rfl⟩ ⟨m, hm, rfl⟩
  refine ⟨n + m, by omega, ?_⟩
  have := pw_ne i
  push_cast
  grind
theorem Fr.mul {i j N M : Nat} {x y : Rat} : Fr i N x → Fr j M y → Fr (i + j) (N * M) (x * y) := by
  rintro ⟨n, hn, rfl⟩ ⟨m, hm, rfl⟩
  refine ⟨n * m, Nat.mul_le_mul hn hm, ?_⟩
  have h1 := pw_ne i
  have h2 := pw_ne j
  rw [Nat.pow_add]
  push_cast
  push_cast at h1 h2
  grind
theorem Fr.up {i N : Nat} {x : Rat} (k : Nat) : Fr i N x → Fr (i + k) (N * 2520 ^ k) x := fun h => by
  have := Fr.mul h (⟨2520 ^ k, Nat.le_refl _, by have := pw_ne k; grind⟩ : Fr k (2520 ^ k) 1)
  rwa [Rat.mul_one] at this
theorem Fr.mono {i N M : Nat} {x : Rat} (c : N ≤ M) : Fr i N x → Fr i M x := fun ⟨n, hn, e⟩ => ⟨n, by omega, e⟩
theorem Fr.zero {i N : Nat} : Fr i N 0 := ⟨0, by omega, by rw [show ((0 : Nat) : Rat) = 0 from rfl]; grind⟩
theorem Fr.one {i N : Nat} (h : 2520 ^ i ≤ N) : Fr i N 1 := ⟨2520 ^ i, h, by have := pw_ne i; grind⟩
theorem Fr.rb {i N k : Nat} {x : Rat} (h : Fr i N x) (h1 : N < 2 ^ k) (h2 : 2520 ^ i < 2 ^ k) : RB k x := by
  obtain ⟨n, hn, rfl⟩ := h
  have e : (n : Rat) / ((2520 ^ i : Nat) : Rat) = Rat.divInt (n : Int) ((2520 ^ i : Nat) : Int) := by
    rw [Rat.divInt_eq_div]
    push_cast
    rfl
  rw [e]
  have p : 0 < 2520 ^ i := Nat.pow_pos (by decide)
  refine RB.divInt ?_ ?_ (by omega)
  · show (n : Int).natAbs < 2 ^ k
    simp only [Int.natAbs_natCast]; omega
  · show (((2520 ^ i : Nat) : Int)).natAbs < 2 ^ k
    simp only [Int.natAbs_natCast]; omega
/-- the most of the numerators -/
def BN (i : Nat) : Nat := 645120 ^ i
theorem bn_succ (i : Nat) : BN (i + 1) = 645120 * BN i := by unfold BN; rw [Nat.pow_succ, Nat.mul_comm]
theorem bn_lt (i : Nat) : BN i < 2 ^ (20 * i + 1) := by
  induction i with
  | zero => decide
  | succ i ih =>
    rw [bn_succ, show 20 * (i + 1) + 1 = 20 * i + 1 + 20 by omega, Nat.pow_add]
    have : (645120 : Nat) < 2 ^ 20 := by decide
    calc 645120 * BN i < 2 ^ 20 * 2 ^ (20 * i + 1) := Nat.mul_lt_mul'' this ih
      _ = _ := Nat.mul_comm ..
theorem p_le_bn (i : Nat) : 2520 ^ i ≤ BN i := Nat.pow_le_pow_left (by decide) i
abbrev FrB (i : Nat) (x : Rat) : Prop := Fr i (BN i) x
theorem FrB.rb {i : Nat} {x : Rat} (h : FrB i x) : RB (20 * i + 1) x := Fr.rb h (bn_lt i) (Nat.lt_of_le_of_lt (p_le_bn i) (bn_lt i))
/-- a chance of a branch -/
theorem Fr.chance {x : Rat} (h0 : 0 ≤ x.num) (h1 : x.num ≤ 60) (h : x.den ∣ 2520) : Fr 1 151200 x := by
  obtain ⟨k, hk⟩ := h
  have kp : 0 < k := by
    rcases Nat.eq_zero_or_pos k with z | z
    · subst z; simp at hk
    · exact z
  have k2 : k ≤ 2520 := by
    have := x.den_pos
    have : 1 * k ≤ x.den * k := Nat.mul_le_mul_right k this
    omega
  refine ⟨x.num.toNat * k, ?_, ?_⟩
  · have : x.num.toNat ≤ 60 := by omega
    exact Nat.mul_le_mul this k2
  · have e : x = (x.num : Rat) / (x.den : Rat) := (Rat.num_divInt_den x).symm.trans (by rw [Rat.divInt_eq_div]; push_cast; rfl)
    have n0 : ((x.num.toNat : Nat) : Rat) = (x.num : Rat) := by
      have : ((x.num.toNat : Nat) : Int) = x.num := Int.toNat_of_nonneg h0
      exact_mod_cast congrArg (fun z : Int => (z : Rat)) this
    have dn : (x.den : Rat) ≠ 0 := by
      have := x.den_pos
      intro z
      have : x.den = 0 := by exact_mod_cast z
      omega
    have kn : (k : Rat) ≠ 0 := by
      intro z
      have : k = 0 := by exact_mod_cast z
      omega
    have h2 : ((2520 ^ 1 : Nat) : Rat) = (x.den : Rat) * (k : Rat) := by
      rw [Nat.pow_one, hk]; push_cast; rfl
    rw [h2]
    push_cast
    rw [n0]
    conv => lhs; rw [e]
    grind
/-! ### the chances' sizes -/
/-- a graph whose chances fit -/
structure Cg (g : Gr) : Prop where
  ok : OkG g
  ti : ∀ p ∈ g, ∀ x ∈ p.pts, Ti false x
section
variable {g : Gr} {l : Nat}
end
end Zc
/-! G4B: the checks of the masses. -/
namespace Zc
open PySem L2 Z Q
section
variable {h : IH} {g : Gr} {n : Nat} {c : Nat × Nat} {x : Pt}
/-! ### what is reached is closed -/
def np (z : Int × Int) : Nat × Nat := (z.1.toNat, z.2.toNat)
/-- closed -/
structure Cl (g : Gr) (ps : List (Nat × Nat)) : Prop where
  inn : ∀ a ∈ ps, inG g a
  nd : ps.Nodup
  le : ps.length ≤ 40
  cl : ∀ a ∈ ps, ∀ y, isP g a y → ∀ o ∈ tgs a.1 y, o ∈ ps
end
end Zc
/-! G4C: the rows of the lengths. -/
namespace Zc
open PySem L2 Z Q
theorem okV_dC {h : IH} {c : Nat × Nat} : okV h (dC c) = .ok (dC c) h := rfl
def lF (n p r : Nat) : List (Str × D) := [("graph", .ref n), ("places", .ref p), ("rows", .ref r)]
structure LI (h : IH) (L n p r : Nat) (ro : Nat × Nat → Nat) (re : Nat × Nat → Nat → Nat) (ps : List (Nat × Nat)) (g : Gr) (N : Nat × Nat → Nat → Nat) : Prop where
  ins : h[L]? = some (.ins "Lengths" (lF n p r))
  gr : isG h n g
  rws : h[r]? = some (.dit (ps.map fun c => ([(c.1 : Int), (c.2 : Int)], D.ref (ro c))))
  row : ∀ c ∈ ps, h[ro c]? = some (.lst ((List.range (exN g c.1 + 2)).map fun w => D.ref (re c w)))
  ent : ∀ c ∈ ps, ∀ w, w < exN g c.1 + 2 → h[re c w]? = some (.lst ((List.range (N c w)).map fun l => dr (lenv g l c w)))
  inj : ∀ c ∈ ps, ∀ c' ∈ ps, ∀ w w', w < exN g c.1 + 2 → w' < exN g c'.1 + 2 → re c w = re c' w' → c = c' ∧ w = w'
  sep : ∀ c ∈ ps, ∀ c' ∈ ps, ∀ w, w < exN g c.1 + 2 → re c w ≠ ro c'
  sepp : ∀ c ∈ ps, ∀ w, w < exN g c.1 + 2 → re c w ≠ p
section
variable {h : IH} {L n p r : Nat} {ro : Nat × Nat → Nat} {re : Nat × Nat → Nat → Nat} {ps : List (Nat × Nat)} {g : Gr} {N : Nat × Nat → Nat → Nat}
theorem LI.cell (li : LI h L n p r ro re ps g N) {c : Nat × Nat} {w : Nat} (hc : c ∈ ps) (hw : w < exN g c.1 + 2) : ixM (.ref (ro c)) (.int (w : Int)) h = .ok (.ref (re c w)) h := by
  rw [ixM_ref (li.row c hc), atI_of (x := .ref (re c w))]
  rw [List.getElem?_map, List.getElem?_range hw]; rfl
theorem LI.cell' (li : LI h L n p r ro re ps g N) {c : Nat × Nat} {w : Nat} (hc : c ∈ ps) (hw : w < exN g c.1 + 2) : ixM (.ref (ro c)) (iD w) h = .ok (.ref (re c w)) h := li.cell hc hw
theorem LI.item (li : LI h L n p r ro re ps g N) {c : Nat × Nat} {w i : Nat} (hc : c ∈ ps) (hw : w < exN g c.1 + 2) (hi : i < N c w) : ixM (.ref (re c w)) (.int (i : Int)) h = .ok (dr (lenv g i c w)) h := by
  rw [ixM_ref (li.ent c hc w hw), atI_of (x := dr (lenv g i c w))]
  rw [List.getElem?_map, List.getElem?_range hi]; rfl
theorem fld_Lx {f : Str} {v : D} {ma : ME} {env : Ev} (e : ma env h = .ok (.ref L) h) (w : h[L]? = some (.ins "Lengths" (lF n p r))) (hf : (lF n p r).lookup f = some v) : fldM (okF ["Lengths"] f) f ma env h = .ok v h := by
  unfold fldM
  rw [e]
  simp only [R.bind, R.bindG_ok, insAt_ref w, okF_one, if_true, hf]
theorem LI.graph (li : LI h L n p r ro re ps g N) {f : Str} {ma : ME} {env : Ev} (hf : f = "graph" := by rfl) (e : ma env h = .ok (.ref L) h) : fldM (okF ["Lengths"] f) f ma env h = .ok (.ref n) h := by
  subst hf
  exact fld_Lx e li.ins rfl
theorem LI.places (li : LI h L n p r ro re ps g N) {f : Str} {ma : ME} {env : Ev} (hf : f = "places" := by rfl) (e : ma env h = .ok (.ref L) h) : fldM (okF ["Lengths"] f) f ma env h = .ok (.ref p) h := by
  subst hf
  exact fld_Lx e li.ins rfl
theorem LI.rows (li : LI h L n p r ro re ps g N) {f : Str} {ma : ME} {env : Ev} (hf : f = "rows" := by rfl) (e : ma env h = .ok (.ref L) h) : fldM (okF ["Lengths"] f) f ma env h = .ok (.ref r) h := by
  subst hf
  exact fld_Lx e li.ins rfl
end
end Zc
/-! K11A: the walks: beside, floor. -/
namespace Zc
open PySem L2 Z Q
section
variable {h : IH} {N M : Nb} {n m q : Int} {Q1 : Nat}
theorem sg_sub {a b : Int} : sg (a - b) = (if b < a then 1 else 0) - (if a < b then 1 else 0) := by
  unfold sg
  have e1 : (0 < a - b) = (b < a) := by simp only [eq_iff_iff]; omega
  have e2 : (a - b < 0) = (a < b) := by simp only [eq_iff_iff]; omega
  simp only [e1, e2]
theorem num_le {x : Rat} (ok : OkNb Q1 (.rat x)) (hQ : Q1 ≤ 9999) : RB 25 x := by
  obtain ⟨d, h1, h2⟩ := ok
  have d1 : x.den ≤ 9999 := Nat.le_trans d hQ
  have d0 : (0 : Rat) < (x.den : Rat) := Rat.natCast_lt_natCast.mpr x.den_pos
  have d2 : (x.den : Rat) ≤ ((9999 : Nat) : Rat) := Rat.natCast_le_natCast.mpr d1
  have d2 : (x.den : Rat) ≤ 9999 := d2
  have e : x * (x.den : Rat) = (x.num : Rat) := by
    have e := Rat.num_divInt_den x
    conv => lhs; lhs; rw [← e]
    rw [Rat.divInt_eq_div, Rat.intCast_natCast]
    exact div_mul_c (by grind)
  have p1 := Rat.mul_nonneg (a := 2001 - x) (b := (x.den : Rat)) (by grind) (by grind)
  have p2 := Rat.mul_nonneg (a := 2001 + x) (b := (x.den : Rat)) (by grind) (by grind)
  have u : (x.num : Rat) ≤ ((20007999 : Int) : Rat) := by show _ ≤ (20007999 : Rat); grind
  have l : ((-20007999 : Int) : Rat) ≤ (x.num : Rat) := by show (-20007999 : Rat) ≤ _; grind
  have u := Rat.intCast_le_intCast.mp u
  have l := Rat.intCast_le_intCast.mp l
  refine ⟨?_, ?_⟩
  · unfold Bit; omega
  · unfold Bit; omega
theorem ev_beside (ok : OkNb Q1 N) (hQ : Q1 ≤ 9999) (hn : Bit 140 n) (hq : Bit 130 q) : F__law_beside [dNb N, .int n, .int q] h = .ok (.int (besN N n q)) h := by
  cases N with
  | rat x =>
    have hx := num_le ok hQ
    have m1 := fun h => mulM_int (h := h) (small_of hx.n hq (by decide) (by decide) (by decide))
    have m2 := fun h => mulM_int (h := h) (small_of hn hx.d (by decide) (by decide) (by decide))
    have e1 : eqM (.str "rational") (.str "rational") h = .ok (.bl true) h := rr3
    show F__law_beside [.tup [.str "rational", dr x], .int n, .int q] h = .ok (.int (sg (x.num * q - n * x.den))) h
    rw [sg_sub]
    simp [F__law_beside, M__law_beside, defM, e1, m1, m2]
  | root c b a w =>
    obtain ⟨r, _⟩ := ok
    have bit : ∀ n : Int, n.natAbs ≤ 40 → Bit 8 n := fun n hn => by unfold Bit; omega
    have ba := bit a (Nat.le_trans r.ba (by decide))
    have bb := bit b (Nat.le_trans r.bb (by decide))
    have bc := bit c (Nat.le_trans r.bc (by decide))
    have b2 := bit 2 (by decide)
    have m1 := fun h => mulM_int (h := h) (small_of bc hq (by decide) (by decide) (by decide))
    have m2 := fun h => mulM_int (h := h) (small_of (bc.mul hq) hq (by decide) (by decide) (by decide))
    have m3 := fun h => mulM_int (h := h) (small_of bb hn (by decide) (by decide) (by decide))
    have m4 := fun h => mulM_int (h := h) (small_of (bb.mul hn) hq (by decide) (by decide) (by decide))
    have m5 := fun h => mulM_int (h := h) (small_of ba hn (by decide) (by decide) (by decide))
    have m6 := fun h => mulM_int (h := h) (small_of (ba.mul hn) hn (by decide) (by decide) (by decide))
    have m7 := fun h => mulM_int (h := h) (small_of b2 ba (by decide) (by decide) (by decide))
    have m8 := fun h => mulM_int (h := h) (small_of (b2.mul ba) hn (by decide) (by decide) (by decide))
    have m9 := fun h => mulM_int (h := h) (small_of bb hq (by decide) (by decide) (by decide))
    have e1 : eqM (.str "root") (.str "rational") h = .ok (.bl false) h := rr1
    show F__law_beside [rootD c b a w, .int n, .int q] h = .ok (.int (besS (c * q * q + b * n * q + a * n * n) (2 * a * n + b * q) w)) h
    unfold besS
    rcases r.w01 with z | z <;> subst z
    · by_cases q1 : 0 ≤ 2 * a * n + b * q
      · simp [rootD, F__law_beside, M__law_beside, defM, e1, m1, m2, m3, m4, m5, m6, m7, m8, m9, q1]
      · by_cases t : c * q * q + b * n * q + a * n * n < 0
        · simp [rootD, F__law_beside, M__law_beside, defM, e1, m1, m2, m3, m4, m5, m6, m7, m8, m9, q1, t]
        · simp [rootD, F__law_beside, M__law_beside, defM, e1, m1, m2, m3, m4, m5, m6, m7, m8, m9, q1, t]
    · by_cases q1 : 2 * a * n + b * q ≤ 0
      · simp [rootD, F__law_beside, M__law_beside, defM, e1, m1, m2, m3, m4, m5, m6, m7, m8, m9, q1]
      · by_cases t : c * q * q + b * n * q + a * n * n < 0
        · simp [rootD, F__law_beside, M__law_beside, defM, e1, m1, m2, m3, m4, m5, m6, m7, m8, m9, q1, t]
        · simp [rootD, F__law_beside, M__law_beside, defM, e1, m1, m2, m3, m4, m5, m6, m7, m8, m9, q1, t]
theorem bit_between {k : Nat} {lo x hi : Int} (h1 : Bit k lo) (h2 : Bit k hi) (a : lo ≤ x) (b : x ≤ hi) : Bit k x := by
  unfold Bit at *
  omega
theorem fd2 {a : Int} {J : IH} : fdivM (.int a) (.int 2) J = .ok (.int (a / 2)) J := by
  have e : a.fdiv 2 = a / 2 := Int.fdiv_eq_ediv_of_nonneg a (by decide)
  show (if (2 : Int) ≠ 0 ∧ (2 : Int).natAbs.log2 < 9000 then R.ok (D.int (a.fdiv 2)) J else .stuck) = _
  rw [if_pos ⟨by decide, by decide⟩, e]
/-- the law's floor: by halving -/
theorem ev_floor {lo hi : Int} (ok : OkNb Q1 N) (hQ : Q1 ≤ 9999) (b1 : Bit 140 lo) (b2 : Bit 140 hi) (hq : Bit 130 q) (h1 : 0 ≤ besN N lo q) (h2 : besN N hi q < 0) (lt : lo < hi) (hl : hi - lo ≤ 2 ^ 398) :
    ∃ m, F__law_floor [dNb N, .int q, .int lo, .int hi] h = .ok (.int m) h ∧ 0 ≤ besN N m q ∧ besN N (m + 1) q < 0 ∧ lo ≤ m ∧ m < hi := by
  have okN : ∀ J : IH, okV J (dNb N) = .ok (dNb N) J := fun J => by cases N <;> rfl
  have be : ∀ (x : Int) (J : IH), Bit 140 x → F__law_beside [dNb N, .int x, .int q] J = .ok (.int (besN N x q)) J := fun x J hx => ev_beside ok hQ hx hq
  have goal : rp (F__law_floor [dNb N, .int q, .int lo, .int hi] h) (fun d H => ∃ m, d = .int m ∧ H = h ∧ 0 ≤ besN N m q ∧ besN N (m + 1) q < 0 ∧ lo ≤ m ∧ m < hi) noX := by
    generalize dNb N = dn at okN be
    unfold F__law_floor M__law_floor
    refine rp_def ?_
    simp only [setsE_cons, setsE_nil, List.set_cons_zero, List.set_cons_succ, List.map_cons, List.map_nil, List.length_cons, List.length_nil, List.cons_append, List.nil_append, List.append_nil, List.replicate_succ, List.replicate_zero, Nat.zero_add, Nat.reduceAdd, Nat.reduceSub, wipeE_nil, wipeE_cons, ↓reduceIte, Bool.false_eq_true, Bool.not_true, Bool.not_false]
    (first | refine sp_seq ?_ | refine sp_set ?_ | refine sp_if ?_ | refine sp_ret ?_ | refine sp_expr ?_ | refine sp_asg ?_ | refine sp_next ?_ | refine sp_brk ?_ | refine sp_cont ?_ | refine sp_raise ?_ | refine sp_put ?_ | refine sp_retN ?_ | refine sp_par ?_ | refine sp_asgL ?_)
    try dsimp only
    refine sp_forR (h1 := h) [2, 3, 4, 5] 400 (fun i vs H => ∃ (a b : Int) (x4 x5 : Option D), vs = [some (.int a), some (.int b), x4, x5] ∧ H = h ∧ 0 ≤ besN N a q ∧ besN N b q < 0 ∧ lo ≤ a ∧ a < b ∧ b ≤ hi ∧ b - a ≤ 2 ^ (398 - i)) (vs := [some (.int lo), some (.int hi), none, none]) (by simp; rfl) (by decide) rfl ⟨_, _, _, _, rfl, rfl, h1, h2, Int.le_refl _, lt, Int.le_refl _, hl⟩ ?_ ?_
    · rintro i vs H hi' ⟨a, b, x4, x5, rfl, rfl, ha, hb, la, ab, bh, d⟩
      refine ⟨_, rfl, ?_⟩
      try simp only [setsE_cons, setsE_nil, List.set_cons_zero, List.set_cons_succ, List.map_cons, List.map_nil, List.length_cons, List.length_nil, List.cons_append, List.nil_append, List.append_nil, List.replicate_succ, List.replicate_zero, Nat.zero_add, Nat.reduceAdd, Nat.reduceSub, wipeE_nil, wipeE_cons, ↓reduceIte, Bool.false_eq_true, Bool.not_true, Bool.not_false]
      (first | refine sp_seq ?_ | refine sp_set ?_ | refine sp_if ?_ | refine sp_ret ?_ | refine sp_expr ?_ | refine sp_asg ?_ | refine sp_next ?_ | refine sp_brk ?_ | refine sp_cont ?_ | refine sp_raise ?_ | refine sp_put ?_ | refine sp_retN ?_ | refine sp_par ?_ | refine sp_asgL ?_)
      try dsimp only
      refine sp_if (rp_btest ?_)
      conv => (arg 1; simp [okV_iD, okV_dr, okV_dPt, okV_dP, okV_dG, okV_dC, okV_dB, ix_wd, iD_def])
      refine rp_ok ?_
      try dsimp only
      try simp only [setsE_cons, setsE_nil, List.set_cons_zero, List.set_cons_succ, List.map_cons, List.map_nil, List.length_cons, List.length_nil, List.cons_append, List.nil_append, List.append_nil, List.replicate_succ, List.replicate_zero, Nat.zero_add, Nat.reduceAdd, Nat.reduceSub, wipeE_nil, wipeE_cons, ↓reduceIte, Bool.false_eq_true, Bool.not_true, Bool.not_false]
      refine ⟨_, rfl, ?_⟩
      by_cases c : b - a < 2
      · simp only [c, decide_true, if_true]
        refine sp_brk ?_
        try simp only [setsE_cons, setsE_nil, List.set_cons_zero, List.set_cons_succ, List.map_cons, List.map_nil, List.length_cons, List.length_nil, List.cons_append, List.nil_append, List.append_nil, List.replicate_succ, List.replicate_zero, Nat.zero_add, Nat.reduceAdd, Nat.reduceSub, wipeE_nil, wipeE_cons, ↓reduceIte, Bool.false_eq_true, Bool.not_true, Bool.not_false]
        (first | refine sp_seq ?_ | refine sp_set ?_ | refine sp_if ?_ | refine sp_ret ?_ | refine sp_expr ?_ | refine sp_asg ?_ | refine sp_next ?_ | refine sp_brk ?_ | refine sp_cont ?_ | refine sp_raise ?_ | refine sp_put ?_ | refine sp_retN ?_ | refine sp_par ?_ | refine sp_asgL ?_)
        try dsimp only
        conv => (arg 1; simp [okV_iD, okV_dr, okV_dPt, okV_dP, okV_dG, okV_dC, okV_dB, ix_wd, iD_def])
        refine rp_ok ?_
        try dsimp only
        try simp only [setsE_cons, setsE_nil, List.set_cons_zero, List.set_cons_succ, List.map_cons, List.map_nil, List.length_cons, List.length_nil, List.cons_append, List.nil_append, List.append_nil, List.replicate_succ, List.replicate_zero, Nat.zero_add, Nat.reduceAdd, Nat.reduceSub, wipeE_nil, wipeE_cons, ↓reduceIte, Bool.false_eq_true, Bool.not_true, Bool.not_false]
        have e : b = a + 1 := by omega
        subst e
        exact tq_same ⟨a, rfl, rfl, ha, hb, la, by omega⟩
      · simp only [c, decide_false, Bool.false_eq_true, if_false]
        refine sp_next ?_
        obtain ⟨m, hm⟩ : ∃ m, m = (a + b) / 2 := ⟨_, rfl⟩
        have bm : Bit 140 m := bit_between b1 b2 (by omega) (by omega)
        have fd : ∀ J : IH, fdivM (.int (a + b)) (.int 2) J = .ok (.int m) J := fun J => by
          rw [hm]
          exact fd2
        have bem := be m
        have e2 : b - a ≤ 2 * 2 ^ (398 - (i + 1)) ∨ 398 ≤ i := by
          by_cases z : 398 ≤ i
          · exact .inr z
          · left
            rw [show 398 - i = 398 - (i + 1) + 1 by omega, Int.pow_succ] at d
            omega
        have e3 : 398 ≤ i → b - a ≤ 1 := fun z => by rw [show 398 - i = 0 by omega] at d; exact d
        have dd : (1 : Int) ≤ 2 ^ (398 - (i + 1)) := Int.pow_pos (by decide)
        try simp only [setsE_cons, setsE_nil, List.set_cons_zero, List.set_cons_succ, List.map_cons, List.map_nil, List.length_cons, List.length_nil, List.cons_append, List.nil_append, List.append_nil, List.replicate_succ, List.replicate_zero, Nat.zero_add, Nat.reduceAdd, Nat.reduceSub, wipeE_nil, wipeE_cons, ↓reduceIte, Bool.false_eq_true, Bool.not_true, Bool.not_false]
        (first | refine sp_seq ?_ | refine sp_set ?_ | refine sp_if ?_ | refine sp_ret ?_ | refine sp_expr ?_ | refine sp_asg ?_ | refine sp_next ?_ | refine sp_brk ?_ | refine sp_cont ?_ | refine sp_raise ?_ | refine sp_put ?_ | refine sp_retN ?_ | refine sp_par ?_ | refine sp_asgL ?_)
        try dsimp only
        (first | refine sp_seq ?_ | refine sp_set ?_ | refine sp_if ?_ | refine sp_ret ?_ | refine sp_expr ?_ | refine sp_asg ?_ | refine sp_next ?_ | refine sp_brk ?_ | refine sp_cont ?_ | refine sp_raise ?_ | refine sp_put ?_ | refine sp_retN ?_ | refine sp_par ?_ | refine sp_asgL ?_)
        try dsimp only
        conv => (arg 1; simp [okV_iD, okV_dr, okV_dPt, okV_dP, okV_dG, okV_dC, okV_dB, ix_wd, iD_def, fd])
        refine rp_ok ?_
        try dsimp only
        try simp only [setsE_cons, setsE_nil, List.set_cons_zero, List.set_cons_succ, List.map_cons, List.map_nil, List.length_cons, List.length_nil, List.cons_append, List.nil_append, List.append_nil, List.replicate_succ, List.replicate_zero, Nat.zero_add, Nat.reduceAdd, Nat.reduceSub, wipeE_nil, wipeE_cons, ↓reduceIte, Bool.false_eq_true, Bool.not_true, Bool.not_false]
        (first | refine sp_seq ?_ | refine sp_set ?_ | refine sp_if ?_ | refine sp_ret ?_ | refine sp_expr ?_ | refine sp_asg ?_ | refine sp_next ?_ | refine sp_brk ?_ | refine sp_cont ?_ | refine sp_raise ?_ | refine sp_put ?_ | refine sp_retN ?_ | refine sp_par ?_ | refine sp_asgL ?_)
        try dsimp only
        refine rp_btest ?_
        conv => (arg 1; simp [okV_iD, okV_dr, okV_dPt, okV_dP, okV_dG, okV_dC, okV_dB, ix_wd, iD_def, okN, bem _ bm])
        refine rp_ok ?_
        try dsimp only
        try simp only [setsE_cons, setsE_nil, List.set_cons_zero, List.set_cons_succ, List.map_cons, List.map_nil, List.length_cons, List.length_nil, List.cons_append, List.nil_append, List.append_nil, List.replicate_succ, List.replicate_zero, Nat.zero_add, Nat.reduceAdd, Nat.reduceSub, wipeE_nil, wipeE_cons, ↓reduceIte, Bool.false_eq_true, Bool.not_true, Bool.not_false]
        refine ⟨_, rfl, ?_⟩
        by_cases t : 0 ≤ besN N m q
        · simp only [t, decide_true, if_true]
          (first | refine sp_seq ?_ | refine sp_set ?_ | refine sp_if ?_ | refine sp_ret ?_ | refine sp_expr ?_ | refine sp_asg ?_ | refine sp_next ?_ | refine sp_brk ?_ | refine sp_cont ?_ | refine sp_raise ?_ | refine sp_put ?_ | refine sp_retN ?_ | refine sp_par ?_ | refine sp_asgL ?_)
          try dsimp only
          conv => (arg 1; simp [okV_iD, okV_dr, okV_dPt, okV_dP, okV_dG, okV_dC, okV_dB, ix_wd, iD_def])
          refine rp_ok ?_
          try dsimp only
          try simp only [setsE_cons, setsE_nil, List.set_cons_zero, List.set_cons_succ, List.map_cons, List.map_nil, List.length_cons, List.length_nil, List.cons_append, List.nil_append, List.append_nil, List.replicate_succ, List.replicate_zero, Nat.zero_add, Nat.reduceAdd, Nat.reduceSub, wipeE_nil, wipeE_cons, ↓reduceIte, Bool.false_eq_true, Bool.not_true, Bool.not_false]
          exact turn_next (vs := [_, _, _, _]) rfl ⟨m, b, _, _, rfl, rfl, t, hb, by omega, by omega, bh, by omega⟩
        · simp only [t, decide_false, Bool.false_eq_true, if_false]
          (first | refine sp_seq ?_ | refine sp_set ?_ | refine sp_if ?_ | refine sp_ret ?_ | refine sp_expr ?_ | refine sp_asg ?_ | refine sp_next ?_ | refine sp_brk ?_ | refine sp_cont ?_ | refine sp_raise ?_ | refine sp_put ?_ | refine sp_retN ?_ | refine sp_par ?_ | refine sp_asgL ?_)
          try dsimp only
          conv => (arg 1; simp [okV_iD, okV_dr, okV_dPt, okV_dP, okV_dG, okV_dC, okV_dB, ix_wd, iD_def])
          refine rp_ok ?_
          try dsimp only
          try simp only [setsE_cons, setsE_nil, List.set_cons_zero, List.set_cons_succ, List.map_cons, List.map_nil, List.length_cons, List.length_nil, List.cons_append, List.nil_append, List.append_nil, List.replicate_succ, List.replicate_zero, Nat.zero_add, Nat.reduceAdd, Nat.reduceSub, wipeE_nil, wipeE_cons, ↓reduceIte, Bool.false_eq_true, Bool.not_true, Bool.not_false]
          exact turn_next (vs := [_, _, _, _]) rfl ⟨a, m, _, _, rfl, rfl, ha, by omega, la, by omega, by omega, by omega⟩
    · rintro vs H ⟨a, b, x4, x5, rfl, rfl, ha, hb, la, ab, bh, d⟩
      try simp only [setsE_cons, setsE_nil, List.set_cons_zero, List.set_cons_succ, List.map_cons, List.map_nil, List.length_cons, List.length_nil, List.cons_append, List.nil_append, List.append_nil, List.replicate_succ, List.replicate_zero, Nat.zero_add, Nat.reduceAdd, Nat.reduceSub, wipeE_nil, wipeE_cons, ↓reduceIte, Bool.false_eq_true, Bool.not_true, Bool.not_false]
      (first | refine sp_seq ?_ | refine sp_set ?_ | refine sp_if ?_ | refine sp_ret ?_ | refine sp_expr ?_ | refine sp_asg ?_ | refine sp_next ?_ | refine sp_brk ?_ | refine sp_cont ?_ | refine sp_raise ?_ | refine sp_put ?_ | refine sp_retN ?_ | refine sp_par ?_ | refine sp_asgL ?_)
      try dsimp only
      conv => (arg 1; simp [okV_iD, okV_dr, okV_dPt, okV_dP, okV_dG, okV_dC, okV_dB, ix_wd, iD_def])
      refine rp_ok ?_
      try dsimp only
      try simp only [setsE_cons, setsE_nil, List.set_cons_zero, List.set_cons_succ, List.map_cons, List.map_nil, List.length_cons, List.length_nil, List.cons_append, List.nil_append, List.append_nil, List.replicate_succ, List.replicate_zero, Nat.zero_add, Nat.reduceAdd, Nat.reduceSub, wipeE_nil, wipeE_cons, ↓reduceIte, Bool.false_eq_true, Bool.not_true, Bool.not_false]
      have e : b = a + 1 := by
        have : b - a ≤ 1 := d
        omega
      subst e
      exact tq_same ⟨a, rfl, rfl, ha, hb, la, by omega⟩
  obtain ⟨d, h', e, m, rfl, rfl, r⟩ := rp_to goal
  exact ⟨m, e, r⟩
end
end Zc
/-! K11B: the walks: signs, compare_numbers. -/
namespace Zc
open PySem L2 Z Q
section
variable {h : IH} {N M : Nb} {d e : Nat} {r u v : Rat}
theorem ev_trS (hd : Bit 12 (d : Int)) (he : Bit 12 (e : Int)) (hu : RB 30 u) (hv : RB 30 v) : F_two_roots_sign [dr u, .int d, dr v, .int e] h = .ok (.int (trS u d v e)) h := by
  have m1 := fun h => mulM_int (h := h) (small_of hu.n hd (by decide) (by decide) (by decide))
  have m2 := fun h => mulM_int (h := h) (small_of hv.n he (by decide) (by decide) (by decide))
  have t1 := fun h => ev_times (h := h) hu hu (by decide) (by decide) (by decide)
  have t2 := fun h => ev_times (h := h) hv hv (by decide) (by decide) (by decide)
  have t3 := fun h => ev_times (h := h) (RB.int hd (by decide)) (hu.mul hu) (by decide) (by decide) (by decide)
  have t4 := fun h => ev_times (h := h) (RB.int he (by decide)) (hv.mul hv) (by decide) (by decide) (by decide)
  have t5 := fun h => ev_minus (h := h) ((RB.int hd (by decide)).mul (hu.mul hu)) ((RB.int he (by decide)).mul (hv.mul hv)) (by decide) (by decide) (by decide)
  have m3 := fun h => mulM_int (h := h) (small_of (sg_bit (n := u.num * d)) (sg_bit (n := ((((d : Int) : Int) : Rat) * (u * u) - (((e : Int) : Int) : Rat) * (v * v)).num)))
  unfold trS
  rw [← intc d, ← intc e]
  by_cases c1 : sg (u.num * d) = 0
  · simp [F_two_roots_sign, M_two_roots_sign, defM, ev_sign, m1, m2, c1]
  · by_cases c2 : sg (v.num * e) = 0
    · simp [F_two_roots_sign, M_two_roots_sign, defM, ev_sign, m1, m2, c1, c2]
    · by_cases c3 : sg (u.num * d) = sg (v.num * e)
      · simp [F_two_roots_sign, M_two_roots_sign, defM, ev_sign, m1, m2, c1, c2, c3]
      · simp [F_two_roots_sign, M_two_roots_sign, defM, ev_sign, m1, m2, c1, c2, c3, tupM_eq, dr_int, t1, t2, t3, t4, t5, m3]
theorem ev_sS {x y : Rat} {f : Nat} (hf : Bit 24 (f : Int)) (hx : RB 400 x) (hy : RB 400 y) : F_square_sign [dr x, dr y, .int f] h = .ok (.int (sS f x y)) h := by
  unfold sS
  by_cases z : f = 0
  · subst z
    rw [if_pos rfl]
    exact ev_square_sign0 hy
  · rw [if_neg z]
    exact ev_square_sign (by omega) hf hx hy
theorem sg_bit4 {n : Int} (h : n = 1 ∨ n = -1 ∨ n = 0) : Bit 4 n := by
  unfold Bit
  rcases h with h | h | h <;> subst h <;> decide
theorem sS_bit {x y : Rat} {f : Nat} : Bit 4 (sS f x y) := sg_bit4 (sS_is (rt_r f)).three
theorem ev_toS (hd : Bit 12 (d : Int)) (he : Bit 12 (e : Int)) (hr : RB 60 r) (hu : RB 30 u) (hv : RB 30 v) : F_total_sign [dr r, dr u, .int d, dr v, .int e] h = .ok (.int (toS r u d v e)) h := by
  have q := fun h => ev_trS (h := h) hd he hu hv
  have t0 := fun h => ev_times (h := h) hr hr (by decide) (by decide) (by decide)
  have t1 := fun h => ev_times (h := h) hu hu (by decide) (by decide) (by decide)
  have t2 := fun h => ev_times (h := h) hv hv (by decide) (by decide) (by decide)
  have t3 := fun h => ev_times (h := h) (RB.int hd (by decide)) (hu.mul hu) (by decide) (by decide) (by decide)
  have t4 := fun h => ev_times (h := h) (RB.int he (by decide)) (hv.mul hv) (by decide) (by decide) (by decide)
  have rS := ((RB.int hd (by decide)).mul (hu.mul hu)).add ((RB.int he (by decide)).mul (hv.mul hv))
  have t5 := fun h => ev_plus (h := h) ((RB.int hd (by decide)).mul (hu.mul hu)) ((RB.int he (by decide)).mul (hv.mul hv)) (by decide) (by decide) (by decide)
  have t6 := fun h => ev_minus (h := h) (hr.mul hr) rS (by decide) (by decide) (by decide)
  have t7 := fun h => ev_times (h := h) hu hv (by decide) (by decide) (by decide)
  have b2 : Bit 4 (-2) := by unfold Bit; decide
  have t8 := fun h => ev_times (h := h) (RB.int b2 (by decide)) (hu.mul hv) (by decide) (by decide) (by decide)
  have e2 : (((-2 : Int) : Int) : Rat) = -2 := rfl
  rw [e2] at t8
  have hf : Bit 24 ((d * e : Nat) : Int) := by rw [Int.natCast_mul]; exact hd.mul he
  have mm := fun h => mulM_int (h := h) (small_of hd he (by decide) (by decide) (by decide))
  have x1 := ((hr.mul hr).sub rS)
  have y1 := ((RB.int b2 (by decide)).mul (hu.mul hv))
  have s1 := fun h => ev_sS (h := h) hf (x1.mono (by decide)) (y1.mono (by decide))
  have s2 : ∀ h, F_square_sign [dr (r * r - ((((d : Int) : Int) : Rat) * (u * u) + (((e : Int) : Int) : Rat) * (v * v))), dr (-2 * (u * v)), .int ((d : Int) * (e : Int))] h = .ok (.int (sS (d * e) (r * r - ((d : Rat) * (u * u) + (e : Rat) * (v * v))) (-2 * (u * v)))) h := fun h => by
    have := s1 h
    rw [Int.natCast_mul] at this
    exact this
  have m3 := fun h => mulM_int (h := h) (small_of (sg_bit (n := r.num)) (sS_bit (x := r * r - ((d : Rat) * (u * u) + (e : Rat) * (v * v))) (y := -2 * (u * v)) (f := d * e)))
  unfold toS
  by_cases c1 : sg r.num = 0
  · simp [F_total_sign, M_total_sign, defM, ev_sign, q, c1]
  · by_cases c2 : trS u d v e = 0
    · simp [F_total_sign, M_total_sign, defM, ev_sign, q, c1, c2]
    · by_cases c3 : sg r.num = trS u d v e
      · simp [F_total_sign, M_total_sign, defM, ev_sign, q, c1, c2, c3]
      · generalize hS : sS (d * e) (r * r - ((d : Rat) * (u * u) + (e : Rat) * (v * v))) (-2 * (u * v)) = S at s2 m3
        generalize trS u d v e = T at q c2 c3
        simp [F_total_sign, M_total_sign, defM, ev_sign, q, c1, c2, c3, tupM_eq, dr_int, t0, t1, t2, t3, t4, t5, t6, t7, t8, mm, s2, m3]
theorem xN_rb (ok : OkNb 9999 N) : RB 25 (xN N) := by
  cases N with
  | rat x => exact num_le ok (Nat.le_refl _)
  | root c b a w =>
    obtain ⟨r, _⟩ := ok
    have bit : ∀ n : Int, n.natAbs ≤ 20 → Bit 8 n := fun n hn => by unfold Bit; omega
    exact (RB.divInt ((bit b r.bb).neg.mono (by decide)) (bit2.mul (bit a r.ba)) (by have := r.a0; omega) : RB 12 (rx b a)).mono (by decide)
theorem uN_rb (ok : OkNb 9999 N) : RB 25 (uN N) := by
  cases N with
  | rat x => exact RB.zero
  | root c b a w =>
    obtain ⟨r, _⟩ := ok
    have bit : ∀ n : Int, n.natAbs ≤ 20 → Bit 8 n := fun n hn => by unfold Bit; omega
    exact (RB.divInt (by have := r.w01; unfold Bit; omega) (bit2.mul (bit a r.ba)) (by have := r.a0; omega) : RB 12 (ry w a)).mono (by decide)
theorem fN_bit (ok : OkNb 9999 N) : Bit 12 (fN N : Int) := by
  cases N with
  | rat x => show Bit 12 ((0 : Nat) : Int); unfold Bit; decide
  | root c b a w =>
    obtain ⟨r, _⟩ := ok
    rw [fN_root r]
    have ba := r.ba
    have bb := r.bb
    have bc := r.bc
    have h1 : b * b ≤ 400 ∧ 0 ≤ b * b := by
      have : (b.natAbs * b.natAbs : Nat) ≤ 20 * 20 := Nat.mul_le_mul bb bb
      have e : ((b.natAbs * b.natAbs : Nat) : Int) = b * b := Int.natAbs_mul_self
      omega
    have h2 : -(a * c) ≤ 400 ∧ a * c ≤ 400 := by
      have : (a.natAbs * c.natAbs : Nat) ≤ 20 * 20 := Nat.mul_le_mul ba bc
      rw [← Int.natAbs_mul] at this
      omega
    have e : 4 * a * c = 4 * (a * c) := by grind
    unfold Bit
    omega
theorem ev_is_nb (ok : OkNb 9999 N) : F_is_number [dNb N] h = .ok (.bl true) h := by
  cases N with
  | rat x => exact num_rat (isr_dr (x := x))
  | root c b a w => exact ev_number_root ok.1
theorem ev_partsN (ok : OkNb 9999 N) : F_parts_of [dNb N] h = .ok (.tup [.int (fN N), de (xN N) (uN N)]) h := by
  cases N with
  | rat x => exact ev_parts_rat
  | root c b a w =>
    rw [fN_root ok.1]
    exact ev_parts_root ok.1
theorem ev_cmp (o1 : OkNb 9999 N) (o2 : OkNb 9999 M) : F_compare_numbers [dNb N, dNb M] h = .ok (.int (cmpN N M)) h := by
  have ok1 : ∀ J : IH, okV J (dNb N) = .ok (dNb N) J := fun J => by cases N <;> rfl
  have ok2 : ∀ J : IH, okV J (dNb M) = .ok (dNb M) J := fun J => by cases M <;> rfl
  have c1 := fun h => check_yes (h := h) (nm := "first") (ok1 h) rfl (ev_is_nb o1)
  have c2 := fun h => check_yes (h := h) (nm := "second") (ok2 h) rfl (ev_is_nb o2)
  have p1 := fun h => ev_partsN (h := h) o1
  have p2 := fun h => ev_partsN (h := h) o2
  have mi := fun h => ev_minus (h := h) (xN_rb o1) (xN_rb o2) (by decide) (by decide) (by decide)
  have to := fun h => ev_toS (h := h) (fN_bit o1) (fN_bit o2) (((xN_rb o1).sub (xN_rb o2)).mono (by decide)) ((uN_rb o1).mono (by decide)) ((uN_rb o2).neg.mono (by decide))
  have ng : D.tup [.int (-(uN M).num), .int (uN M).den] = dr (-uN M) := by
    unfold dr
    rw [Rat.neg_num, Rat.neg_den]
  have i0 : ∀ J : IH, ixM (dr (uN M)) (.int 0) J = .ok (.int (uN M).num) J := fun J => rfl
  have i1 : ∀ J : IH, ixM (dr (uN M)) (.int 1) J = .ok (.int (uN M).den) J := fun J => rfl
  unfold cmpN
  generalize dNb N = dn at *
  generalize dNb M = dm at *
  simp [F_compare_numbers, M_compare_numbers, defM, ok1, ok2, c1, c2, p1, p2, de_is, mi, i0, i1, tupM_eq, ng, to]
end
end Zc
/-! K11C: numbers drawn, with their bounds. -/
namespace Zc
open PySem L2 Z Q
theorem ev_law_ratio_t {n : Nat} {h : IH} {s : Nat} {top most : Int} (w : Strm n h s) (hn : n ≤ 900000000) (h0 : 0 ≤ top) (h1 : 0 < most) {b : Nat} (ht : top < 2 ^ b) (hm : most < 2 ^ b) (hb : b ≤ 8000 := by decide) (hb0 : 0 < b := by decide) :
    ∃ (r : Rat) (h' : IH), F__law_ratio [.ref s, .int top, .int most] h = .ok (dr r) h' ∧ (∃ i j : Int, r = Rat.divInt i j ∧ -top ≤ i ∧ i ≤ top ∧ 1 ≤ j ∧ j ≤ most) ∧ Drawn (n + 2) h s h' := by
  have bt : Bit b top := Bit.pos h0 ht
  have s1 : small 2 top := small_of (a := 2) (Bit.pos (by decide) (by decide)) bt (by omega) (by decide) hb0
  obtain ⟨d1, h1', e1, d10, d11, w1⟩ := ev_next w (by omega) (show (0 : Int) < 2 * top + 1 by omega) (b := b + 2) (Bit.pos (by omega) (by rw [Int.pow_succ, Int.pow_succ]; omega)) (by omega) (by omega)
  obtain ⟨d2, h2', e2, d20, d21, w2⟩ := ev_next w1.st (by omega) h1 (b := b) (Bit.pos (by omega) hm) (by omega) hb0
  have bn : Bit (b + 1) (d1 - top) := by
    have : (d1 - top).natAbs ≤ top.natAbs := by omega
    exact (bt.le this).mono (by omega)
  have bd : Bit (b + 1) (1 + d2) := Bit.pos (by omega) (by rw [Int.pow_succ]; omega)
  have e3 := ev_law_lowR (n := d1 - top) (d := 1 + d2) (h := h2') (by omega) bd (by omega) (by omega)
  refine ⟨Rat.divInt (d1 - top) (1 + d2), h2', ?_, ⟨_, _, rfl, by omega, by omega, by omega, by omega⟩, w1.dr.trans w2.dr⟩
  simp [F__law_ratio, M__law_ratio, defM, mulM_int s1, e1, e2, e3]
  exact trunc_len (w2.len.trans w1.len)
theorem ev_law_number_t {n : Nat} {h : IH} {s : Nat} (w : Strm n h s) (hn : n ≤ 800000000) :
    ∃ (d : D) (h' : IH), F__law_number [.ref s] h = .ok d h' ∧ Drawn (n + 5) h s h' ∧ ((∃ r : Rat, d = .tup [.str "rational", dr r] ∧ ∃ i j : Int, r = Rat.divInt i j ∧ -60 ≤ i ∧ i ≤ 60 ∧ 1 ≤ j ∧ j ≤ 40) ∨ ∃ c b a w, d = rootD c b a w ∧ RootOk c b a w) := by
  obtain ⟨d0, h0, e0, d00, d01, w0⟩ := ev_next w (by omega) (show (0 : Int) < 3 by decide) (b := 10) (Bit.pos (by decide) (by decide))
  by_cases c0 : d0 = 0
  · obtain ⟨r, h1, e1, b1, w1⟩ := ev_law_ratio_t w0.st (by omega) (top := 60) (most := 40) (by decide) (by decide) (b := 10) (by decide) (by decide)
    have wd := w0.dr.trans w1
    refine ⟨.tup [.str "rational", dr r], h1, ?_, ⟨wd.st.mono (by omega), wd.len, wd.keep⟩, .inl ⟨r, rfl, b1⟩⟩
    simp [F__law_number, M__law_number, defM, e0, c0, e1, tupM_eq]
    exact trunc_len wd.len
  · obtain ⟨d1, h1, e1, d10, d11, w1⟩ := ev_next w0.st (by omega) (show (0 : Int) < 9 by decide) (b := 10) (Bit.pos (by decide) (by decide))
    obtain ⟨d2, h2, e2, d20, d21, w2⟩ := ev_next w1.st (by omega) (show (0 : Int) < 41 by decide) (b := 10) (Bit.pos (by decide) (by decide))
    obtain ⟨d3, h3, e3, d30, d31, w3⟩ := ev_next w2.st (by omega) (show (0 : Int) < 41 by decide) (b := 10) (Bit.pos (by decide) (by decide))
    obtain ⟨d4, h4, e4, d40, d41, w4⟩ := ev_next w3.st (by omega) (show (0 : Int) < 2 by decide) (b := 10) (Bit.pos (by decide) (by decide))
    have wd := (((w0.dr.trans w1.dr).trans w2.dr).trans w3.dr).trans w4.dr
    have ll : h4.length = h.length := wd.len
    have hw : d4 = 0 ∨ d4 = 1 := by omega
    have bA : Bit 8 (1 + d1) := by unfold Bit; omega
    have bB : Bit 8 (d2 - 20) := by unfold Bit; omega
    have bC : Bit 8 (d3 - 20) := by unfold Bit; omega
    obtain ⟨g, eg, g0, dS, db, dc, g3⟩ := three_gcd (S := 1 + d1) (b := d2 - 20) (c := d3 - 20) (by omega)
    have n1 : (1 + d1).natAbs ≤ 20 := by omega
    have n2 : (d2 - 20).natAbs ≤ 20 := by omega
    have n3 : (d3 - 20).natAbs ≤ 20 := by omega
    have a0 : 0 < (1 + d1) / g := Int.ediv_pos_of_pos_of_dvd (by omega) (by omega) dS
    have bg : Bit 8 g := bA.le (Nat.le_of_dvd (by omega) (Int.natAbs_dvd_natAbs.mpr dS))
    have q1 := fun h => ev_law_gcd (h := h) (a := 1 + d1) (b := d2 - 20) bB
    have q2 := fun h => ev_law_gcd (h := h) (a := (Int.gcd (1 + d1) (d2 - 20) : Nat)) (b := d3 - 20) bC
    rw [← eg] at q2
    have f3 := fun x h => fdivM_pos (x := x) (h := h) g0 bg
    have m1 : ((1 + d1) / g).natAbs ≤ 20 := Nat.le_trans (Int.natAbs_ediv_le_natAbs ..) n1
    have m2 : ((d2 - 20) / g).natAbs ≤ 20 := Nat.le_trans (Int.natAbs_ediv_le_natAbs ..) n2
    have m3 : ((d3 - 20) / g).natAbs ≤ 20 := Nat.le_trans (Int.natAbs_ediv_le_natAbs ..) n3
    have fa := fun h => f3 (1 + d1) h
    have fb := fun h => f3 (d2 - 20) h
    have fc := fun h => f3 (d3 - 20) h
    generalize (1 + d1) / g = a at *
    generalize (d2 - 20) / g = b at *
    generalize (d3 - 20) / g = c at *
    have ba : Bit 8 a := by unfold Bit; omega
    have bb : Bit 8 b := by unfold Bit; omega
    have bc : Bit 8 c := by unfold Bit; omega
    have s1 := fun h => mulM_int (h := h) (small_of bb bb)
    have s2 := fun h => mulM_int (h := h) (small_of (a := 4) (Bit.pos (x := 4) (by decide) (by decide)) ba)
    have s3 := fun h => mulM_int (h := h) (small_of ((Bit.pos (k := 4) (x := 4) (by decide) (by decide)).mul ba) bc)
    by_cases c1 : b * b - 4 * a * c ≤ 0
    · refine ⟨rootD (-2) 0 1 d4, h4, ?_, ⟨wd.st.mono (by omega), wd.len, wd.keep⟩, .inr ⟨_, _, _, _, rfl, root_good hw⟩⟩
      simp [F__law_number, M__law_number, defM, e0, c0, e1, e2, e3, q1, q2, fa, fb, fc, s1, s2, s3, c1, e4, tupM_eq]
      exact trunc_len ll
    · have es := fun h => ev_law_is_square (n := b * b - 4 * a * c) (h := h) (by omega) (lt45 (by
        have z := (((bb.mul bb).mono (show 8 + 8 ≤ 4 + 8 + 8 by decide)).sub (((Bit.pos (k := 4) (x := 4) (by decide) (by decide)).mul ba).mul bc)).lt
        omega))
      by_cases c2 : sq (b * b - 4 * a * c) = true
      · refine ⟨rootD (-2) 0 1 d4, h4, ?_, ⟨wd.st.mono (by omega), wd.len, wd.keep⟩, .inr ⟨_, _, _, _, rfl, root_good hw⟩⟩
        simp [F__law_number, M__law_number, defM, e0, c0, e1, e2, e3, q1, q2, fa, fb, fc, s1, s2, s3, c1, es, c2, e4, tupM_eq]
        exact trunc_len ll
      · refine ⟨rootD c b a d4, h4, ?_, ⟨wd.st.mono (by omega), wd.len, wd.keep⟩, .inr ⟨_, _, _, _, rfl, a0, g3, by omega, fun z => c2 (sq_iff.mpr z), hw, m1, m2, m3⟩⟩
        simp [F__law_number, M__law_number, defM, e0, c0, e1, e2, e3, q1, q2, fa, fb, fc, s1, s2, s3, c1, es, c2, e4, tupM_eq]
        exact trunc_len ll

theorem den_le {i j : Int} (hj : 1 ≤ j) : ((Rat.divInt i j).den : Int) ≤ j := by
  rw [Rat.den_divInt, if_neg (by omega)]
  have := Nat.div_le_self j.natAbs (j.gcd i)
  omega
section
variable {h : IH} {N M : Nb} {n m q a b : Int} {Q1 : Nat}
theorem ok_rat {i j : Int} {B : Int} (hj : 1 ≤ j) (hQ : j ≤ (Q1 : Int)) (hB : B ≤ 1999) (h1 : -(B * j) ≤ i) (h2 : i ≤ B * j) : OkNb Q1 (.rat (Rat.divInt i j)) := by
  have b := half_le (by omega : 0 < j) h1 h2
  have c : ((B : Int) : Rat) ≤ ((1999 : Int) : Rat) := Rat.intCast_le_intCast.mpr hB
  have c : (B : Rat) ≤ 1999 := c
  have d := den_le (i := i) hj
  exact ⟨by omega, by grind, by grind⟩
theorem bes_scale (ok : OkNb Q1 N) (hq : 0 < q) : besN N (2 * n) (2 * q) = besN N n q := by
  have e : Rat.divInt (2 * n) (2 * q) = Rat.divInt n q := by
    rw [Rat.divInt_eq_divInt_iff (by omega) (by omega)]
    grind
  exact (bes_is ok (by omega : 0 < 2 * q)).uniq ((bes_is (n := n) ok hq).eq fun k => by rw [e])
theorem rat_int {x : Rat} : (x.num : Rat) = x * (x.den : Rat) := by
  have d0 : ((x.den : Nat) : Rat) ≠ 0 := fun z => by
    have : x.den = 0 := by exact_mod_cast z
    exact x.den_nz this
  have e := Rat.num_divInt_den x
  conv => rhs; lhs; rw [← e]
  rw [Rat.divInt_eq_div, Rat.intCast_natCast]
  exact (div_mul_c d0).symm
theorem bes_ends (ok : OkNb Q1 N) : 0 ≤ besN N (-2000) 1 ∧ besN N 2000 1 < 0 := by
  cases N with
  | rat x =>
    obtain ⟨_, h1, h2⟩ := ok
    have d0 : (0 : Rat) < (x.den : Rat) := Rat.natCast_lt_natCast.mpr x.den_pos
    have e := rat_int (x := x)
    have p1 := Rat.mul_nonneg (a := 1999 - x) (b := (x.den : Rat)) (by grind) (by grind)
    have p2 := Rat.mul_nonneg (a := 1999 + x) (b := (x.den : Rat)) (by grind) (by grind)
    have c : (((x.den : Nat) : Int) : Rat) = (x.den : Rat) := Rat.intCast_natCast _
    have u : ((x.num : Int) : Rat) ≤ ((1999 * (x.den : Int) : Int) : Rat) := by
      rw [Rat.intCast_mul, c]
      show _ ≤ (1999 : Rat) * _
      grind
    have l : ((-1999 * (x.den : Int) : Int) : Rat) ≤ ((x.num : Int) : Rat) := by
      rw [Rat.intCast_mul, c]
      show (-1999 : Rat) * _ ≤ _
      grind
    have u := Rat.intCast_le_intCast.mp u
    have l := Rat.intCast_le_intCast.mp l
    have dp := x.den_pos
    constructor
    · show 0 ≤ sg (x.num * 1 - -2000 * x.den)
      rw [sg_pos (by omega)]
      decide
    · show sg (x.num * 1 - 2000 * x.den) < 0
      rw [sg_neg (by omega)]
      decide
  | root c b a w =>
    obtain ⟨r, _⟩ := ok
    have a0 := r.a0
    have bb := r.bb
    have bc := r.bc
    constructor
    · show 0 ≤ besS (c * 1 * 1 + b * -2000 * 1 + a * -2000 * -2000) (2 * a * -2000 + b * 1) w
      unfold besS
      rcases r.w01 with z | z <;> subst z
      · rw [if_neg (by decide), if_neg (by omega)]; decide
      · rw [if_pos rfl, if_pos (by omega)]; decide
    · show besS (c * 1 * 1 + b * 2000 * 1 + a * 2000 * 2000) (2 * a * 2000 + b * 1) w < 0
      unfold besS
      rcases r.w01 with z | z <;> subst z
      · rw [if_neg (by decide), if_pos (by omega)]; decide
      · rw [if_pos rfl, if_neg (by omega)]; decide
/-- the floors at q tell the order -/
theorem told_by (o1 : OkNb 40 N) (o2 : OkNb 9999 M) (hq : 0 < q) (h1 : 0 ≤ besN N a q) (h2 : besN N (a + 1) q < 0) (h3 : 0 ≤ besN M b q) (h4 : besN M (b + 1) q < 0) (ne : a ≠ b ∨ q = 2 ^ 120) :
    ((if b < a then 1 else 0) - (if a < b then 1 else 0) : Int) = cmpN N M := by
  rcases Int.lt_trichotomy a b with c | c | c
  · rw [if_neg (by omega), if_pos c, cmp_lt o1 o2 hq h2 h3 (by omega)]
    rfl
  · subst c
    rcases ne with z | z
    · exact absurd rfl z
    · subst z
      rw [if_neg (by omega), cmp_same o1 o2 h1 h2 h3 h4]
      rfl
  · rw [if_pos c, if_neg (by omega), cmp_anti (N := M) (M := N), cmp_lt o2 o1 hq h4 h1 (by omega)]
    rfl
theorem pln_nb : pln 16 (dNb N) = true := by
  cases N with
  | rat x => simp [dNb, pln, dr]; decide +kernel
  | root c b a w => simp [dNb, rootD, pln]; decide +kernel
theorem nb_inj (h : dNb N = dNb M) : N = M := by
  cases N with
  | rat x => cases M with
    | rat y =>
      have : dr x = dr y := by injection h with h; injection h with _ h; injection h
      unfold dr at this
      injection this with t
      injection t with t1 t2
      injection t2 with t2 _
      injection t1 with t1
      injection t2 with t2
      have : x = y := by rw [← Rat.num_divInt_den x, ← Rat.num_divInt_den y, t1, t2]
      rw [this]
    | root c b a w => exact absurd (by injection h with h; injection h with h; injection h : ("rational" : Str) = "root") (by decide +kernel)
  | root c b a w => cases M with
    | rat y => exact absurd (by injection h with h; injection h with h; injection h : ("root" : Str) = "rational") (by decide +kernel)
    | root c' b' a' w' =>
      injection h with h
      injection h with _ h
      injection h with h1 h
      injection h with h2 _
      injection h1 with h1
      injection h1 with e1 h1
      injection h1 with e2 h1
      injection h1 with e3 _
      injection e1 with e1
      injection e2 with e2
      injection e3 with e3
      injection h2 with e4
      rw [e1, e2, e3, e4]
theorem int_dec {p : Prop} [Decidable p] {J : IH} : intF [.bl (decide p)] J = .ok (.int (if p then 1 else 0)) J := by
  by_cases c : p <;> simp [c] <;> rfl
open Classical in
theorem ev_compare (o1 : OkNb 40 N) (o2 : OkNb 9999 M) : F__law_compare [dNb N, dNb M] h = .ok (.int (cmpN N M)) h := by
  have eq : ∀ J : IH, eqM (dNb N) (dNb M) J = .ok (.bl (decide (dNb N = dNb M))) J := fun J => eqM_pl pln_nb pln_nb
  have okN : ∀ J : IH, okV J (dNb N) = .ok (dNb N) J := fun J => by cases N <;> rfl
  have okM : ∀ J : IH, okV J (dNb M) = .ok (dNb M) J := fun J => by cases M <;> rfl
  have f1 : ∀ (q lo hi : Int) (J : IH), Bit 140 lo → Bit 140 hi → Bit 130 q → 0 ≤ besN N lo q → besN N hi q < 0 → lo < hi → hi - lo ≤ 2 ^ 398 → _ := fun q lo hi J b1 b2 b3 h1 h2 h3 h4 => ev_floor (h := J) o1 (by decide) b1 b2 b3 h1 h2 h3 h4
  have f2 : ∀ (q lo hi : Int) (J : IH), Bit 140 lo → Bit 140 hi → Bit 130 q → 0 ≤ besN M lo q → besN M hi q < 0 → lo < hi → hi - lo ≤ 2 ^ 398 → _ := fun q lo hi J b1 b2 b3 h1 h2 h3 h4 => ev_floor (h := J) o2 (by decide) b1 b2 b3 h1 h2 h3 h4
  obtain ⟨m1, e1, x1, x2, x3, x4⟩ := f1 1 (-2000) 2000 h (by unfold Bit; decide) (by unfold Bit; decide) (by unfold Bit; decide) (bes_ends o1).1 (bes_ends o1).2 (by decide) (by decide)
  obtain ⟨m2, e2, y1, y2, y3, y4⟩ := f2 1 (-2000) 2000 h (by unfold Bit; decide) (by unfold Bit; decide) (by unfold Bit; decide) (bes_ends o2).1 (bes_ends o2).2 (by decide) (by decide)
  have self : dNb N = dNb M → cmpN N M = 0 := fun z => by rw [nb_inj z]; exact cmp_self
  have tb : ∀ {a b q : Int}, 0 < q → 0 ≤ besN N a q → besN N (a + 1) q < 0 → 0 ≤ besN M b q → besN M (b + 1) q < 0 → (a ≠ b ∨ q = 2 ^ 120) → ((if b < a then 1 else 0) - (if a < b then 1 else 0) : Int) = cmpN N M := told_by o1 o2
  have sc1 : ∀ n q : Int, 0 < q → besN N (2 * n) (2 * q) = besN N n q := fun n q hq => bes_scale o1 hq
  have sc2 : ∀ n q : Int, 0 < q → besN M (2 * n) (2 * q) = besN M n q := fun n q hq => bes_scale o2 hq
  refine rp_to' ?_
  generalize dNb N = dn at *
  generalize dNb M = dm at *
  generalize cmpN N M = cm at *
  unfold F__law_compare M__law_compare
  refine rp_def ?_
  simp only [setsE_cons, setsE_nil, List.set_cons_zero, List.set_cons_succ, List.map_cons, List.map_nil, List.length_cons, List.length_nil, List.cons_append, List.nil_append, List.append_nil, List.replicate_succ, List.replicate_zero, Nat.zero_add, Nat.reduceAdd, Nat.reduceSub, wipeE_nil, wipeE_cons, ↓reduceIte, Bool.false_eq_true, Bool.not_true, Bool.not_false]
  (first | refine sp_seq ?_ | refine sp_set ?_ | refine sp_if ?_ | refine sp_ret ?_ | refine sp_expr ?_ | refine sp_asg ?_ | refine sp_next ?_ | refine sp_brk ?_ | refine sp_cont ?_ | refine sp_raise ?_ | refine sp_put ?_ | refine sp_retN ?_ | refine sp_par ?_ | refine sp_asgL ?_)
  try dsimp only
  (first | refine sp_seq ?_ | refine sp_set ?_ | refine sp_if ?_ | refine sp_ret ?_ | refine sp_expr ?_ | refine sp_asg ?_ | refine sp_next ?_ | refine sp_brk ?_ | refine sp_cont ?_ | refine sp_raise ?_ | refine sp_put ?_ | refine sp_retN ?_ | refine sp_par ?_ | refine sp_asgL ?_)
  try dsimp only
  refine rp_btest ?_
  conv => (arg 1; simp [okV_iD, okV_dr, okV_dPt, okV_dP, okV_dG, okV_dC, okV_dB, ix_wd, iD_def, okN, okM, eq])
  refine rp_ok ?_
  try dsimp only
  try simp only [setsE_cons, setsE_nil, List.set_cons_zero, List.set_cons_succ, List.map_cons, List.map_nil, List.length_cons, List.length_nil, List.cons_append, List.nil_append, List.append_nil, List.replicate_succ, List.replicate_zero, Nat.zero_add, Nat.reduceAdd, Nat.reduceSub, wipeE_nil, wipeE_cons, ↓reduceIte, Bool.false_eq_true, Bool.not_true, Bool.not_false]
  refine ⟨_, rfl, ?_⟩
  by_cases z : dn = dm
  · simp only [z, decide_true, if_true]
    (first | refine sp_seq ?_ | refine sp_set ?_ | refine sp_if ?_ | refine sp_ret ?_ | refine sp_expr ?_ | refine sp_asg ?_ | refine sp_next ?_ | refine sp_brk ?_ | refine sp_cont ?_ | refine sp_raise ?_ | refine sp_put ?_ | refine sp_retN ?_ | refine sp_par ?_ | refine sp_asgL ?_)
    try dsimp only
    conv => (arg 1; simp [okV_iD, okV_dr, okV_dPt, okV_dP, okV_dG, okV_dC, okV_dB, ix_wd, iD_def])
    refine rp_ok ?_
    try dsimp only
    try simp only [setsE_cons, setsE_nil, List.set_cons_zero, List.set_cons_succ, List.map_cons, List.map_nil, List.length_cons, List.length_nil, List.cons_append, List.nil_append, List.append_nil, List.replicate_succ, List.replicate_zero, Nat.zero_add, Nat.reduceAdd, Nat.reduceSub, wipeE_nil, wipeE_cons, ↓reduceIte, Bool.false_eq_true, Bool.not_true, Bool.not_false]
    exact tq_same ⟨by rw [self z], rfl⟩
  · simp only [z, decide_false, Bool.false_eq_true, if_false]
    refine sp_next ?_
    try simp only [setsE_cons, setsE_nil, List.set_cons_zero, List.set_cons_succ, List.map_cons, List.map_nil, List.length_cons, List.length_nil, List.cons_append, List.nil_append, List.append_nil, List.replicate_succ, List.replicate_zero, Nat.zero_add, Nat.reduceAdd, Nat.reduceSub, wipeE_nil, wipeE_cons, ↓reduceIte, Bool.false_eq_true, Bool.not_true, Bool.not_false]
    (first | refine sp_seq ?_ | refine sp_set ?_ | refine sp_if ?_ | refine sp_ret ?_ | refine sp_expr ?_ | refine sp_asg ?_ | refine sp_next ?_ | refine sp_brk ?_ | refine sp_cont ?_ | refine sp_raise ?_ | refine sp_put ?_ | refine sp_retN ?_ | refine sp_par ?_ | refine sp_asgL ?_)
    try dsimp only
    (first | refine sp_seq ?_ | refine sp_set ?_ | refine sp_if ?_ | refine sp_ret ?_ | refine sp_expr ?_ | refine sp_asg ?_ | refine sp_next ?_ | refine sp_brk ?_ | refine sp_cont ?_ | refine sp_raise ?_ | refine sp_put ?_ | refine sp_retN ?_ | refine sp_par ?_ | refine sp_asgL ?_)
    try dsimp only
    conv => (arg 1; simp [okV_iD, okV_dr, okV_dPt, okV_dP, okV_dG, okV_dC, okV_dB, ix_wd, iD_def, okN, e1])
    refine rp_ok ?_
    try dsimp only
    try simp only [setsE_cons, setsE_nil, List.set_cons_zero, List.set_cons_succ, List.map_cons, List.map_nil, List.length_cons, List.length_nil, List.cons_append, List.nil_append, List.append_nil, List.replicate_succ, List.replicate_zero, Nat.zero_add, Nat.reduceAdd, Nat.reduceSub, wipeE_nil, wipeE_cons, ↓reduceIte, Bool.false_eq_true, Bool.not_true, Bool.not_false]
    (first | refine sp_seq ?_ | refine sp_set ?_ | refine sp_if ?_ | refine sp_ret ?_ | refine sp_expr ?_ | refine sp_asg ?_ | refine sp_next ?_ | refine sp_brk ?_ | refine sp_cont ?_ | refine sp_raise ?_ | refine sp_put ?_ | refine sp_retN ?_ | refine sp_par ?_ | refine sp_asgL ?_)
    try dsimp only
    (first | refine sp_seq ?_ | refine sp_set ?_ | refine sp_if ?_ | refine sp_ret ?_ | refine sp_expr ?_ | refine sp_asg ?_ | refine sp_next ?_ | refine sp_brk ?_ | refine sp_cont ?_ | refine sp_raise ?_ | refine sp_put ?_ | refine sp_retN ?_ | refine sp_par ?_ | refine sp_asgL ?_)
    try dsimp only
    conv => (arg 1; simp [okV_iD, okV_dr, okV_dPt, okV_dP, okV_dG, okV_dC, okV_dB, ix_wd, iD_def, okM, e2])
    refine rp_ok ?_
    try dsimp only
    try simp only [setsE_cons, setsE_nil, List.set_cons_zero, List.set_cons_succ, List.map_cons, List.map_nil, List.length_cons, List.length_nil, List.cons_append, List.nil_append, List.append_nil, List.replicate_succ, List.replicate_zero, Nat.zero_add, Nat.reduceAdd, Nat.reduceSub, wipeE_nil, wipeE_cons, ↓reduceIte, Bool.false_eq_true, Bool.not_true, Bool.not_false]
    (first | refine sp_seq ?_ | refine sp_set ?_ | refine sp_if ?_ | refine sp_ret ?_ | refine sp_expr ?_ | refine sp_asg ?_ | refine sp_next ?_ | refine sp_brk ?_ | refine sp_cont ?_ | refine sp_raise ?_ | refine sp_put ?_ | refine sp_retN ?_ | refine sp_par ?_ | refine sp_asgL ?_)
    try dsimp only
    (first | refine sp_seq ?_ | refine sp_set ?_ | refine sp_if ?_ | refine sp_ret ?_ | refine sp_expr ?_ | refine sp_asg ?_ | refine sp_next ?_ | refine sp_brk ?_ | refine sp_cont ?_ | refine sp_raise ?_ | refine sp_put ?_ | refine sp_retN ?_ | refine sp_par ?_ | refine sp_asgL ?_)
    try dsimp only
    conv => (arg 1; simp [okV_iD, okV_dr, okV_dPt, okV_dP, okV_dG, okV_dC, okV_dB, ix_wd, iD_def])
    refine rp_ok ?_
    try dsimp only
    try simp only [setsE_cons, setsE_nil, List.set_cons_zero, List.set_cons_succ, List.map_cons, List.map_nil, List.length_cons, List.length_nil, List.cons_append, List.nil_append, List.append_nil, List.replicate_succ, List.replicate_zero, Nat.zero_add, Nat.reduceAdd, Nat.reduceSub, wipeE_nil, wipeE_cons, ↓reduceIte, Bool.false_eq_true, Bool.not_true, Bool.not_false]
    (first | refine sp_seq ?_ | refine sp_set ?_ | refine sp_if ?_ | refine sp_ret ?_ | refine sp_expr ?_ | refine sp_asg ?_ | refine sp_next ?_ | refine sp_brk ?_ | refine sp_cont ?_ | refine sp_raise ?_ | refine sp_put ?_ | refine sp_retN ?_ | refine sp_par ?_ | refine sp_asgL ?_)
    try dsimp only
    refine sp_forR (h1 := h) [2, 3, 4, 5] 120 (fun i vs H => ∃ (a b : Int) (x5 : Option D), vs = [some (.int a), some (.int b), some (.int (2 ^ i)), x5] ∧ H = h ∧ 0 ≤ besN N a (2 ^ i) ∧ besN N (a + 1) (2 ^ i) < 0 ∧ 0 ≤ besN M b (2 ^ i) ∧ besN M (b + 1) (2 ^ i) < 0 ∧ (-2000 * 2 ^ i ≤ a ∧ a < 2000 * 2 ^ i) ∧ (-2000 * 2 ^ i ≤ b ∧ b < 2000 * 2 ^ i)) (vs := [some (.int m1), some (.int m2), some (.int 1), none]) (by simp; rfl) (by decide) rfl ⟨_, _, _, rfl, rfl, x1, x2, y1, y2, by omega, by omega⟩ ?_ ?_
    · rintro i vs H hi ⟨a, b, x5, rfl, rfl, a1, a2, b1, b2, ab, bb⟩
      refine ⟨_, rfl, ?_⟩
      have q0 : (0 : Int) < 2 ^ i := Int.pow_pos (by decide)
      have q1 : (2 : Int) ^ i ≤ 2 ^ 120 := by exact_mod_cast Nat.pow_le_pow_right (n := 2) (by decide) (by omega : i ≤ 120)
      have qs : (2 : Int) ^ (i + 1) = 2 * 2 ^ i := by rw [Int.pow_succ]; omega
      rw [qs]
      generalize (2 : Int) ^ i = q at *
      try simp only [setsE_cons, setsE_nil, List.set_cons_zero, List.set_cons_succ, List.map_cons, List.map_nil, List.length_cons, List.length_nil, List.cons_append, List.nil_append, List.append_nil, List.replicate_succ, List.replicate_zero, Nat.zero_add, Nat.reduceAdd, Nat.reduceSub, wipeE_nil, wipeE_cons, ↓reduceIte, Bool.false_eq_true, Bool.not_true, Bool.not_false]
      (first | refine sp_seq ?_ | refine sp_set ?_ | refine sp_if ?_ | refine sp_ret ?_ | refine sp_expr ?_ | refine sp_asg ?_ | refine sp_next ?_ | refine sp_brk ?_ | refine sp_cont ?_ | refine sp_raise ?_ | refine sp_put ?_ | refine sp_retN ?_ | refine sp_par ?_ | refine sp_asgL ?_)
      try dsimp only
      (first | refine sp_seq ?_ | refine sp_set ?_ | refine sp_if ?_ | refine sp_ret ?_ | refine sp_expr ?_ | refine sp_asg ?_ | refine sp_next ?_ | refine sp_brk ?_ | refine sp_cont ?_ | refine sp_raise ?_ | refine sp_put ?_ | refine sp_retN ?_ | refine sp_par ?_ | refine sp_asgL ?_)
      try dsimp only
      refine rp_btest ?_
      conv => (arg 1; simp [okV_iD, okV_dr, okV_dPt, okV_dP, okV_dG, okV_dC, okV_dB, ix_wd, iD_def])
      refine rp_ok ?_
      try dsimp only
      try simp only [setsE_cons, setsE_nil, List.set_cons_zero, List.set_cons_succ, List.map_cons, List.map_nil, List.length_cons, List.length_nil, List.cons_append, List.nil_append, List.append_nil, List.replicate_succ, List.replicate_zero, Nat.zero_add, Nat.reduceAdd, Nat.reduceSub, wipeE_nil, wipeE_cons, ↓reduceIte, Bool.false_eq_true, Bool.not_true, Bool.not_false]
      refine ⟨_, rfl, ?_⟩
      by_cases c : a = b
      · have e0 : (!decide (a = b)) = false := by rw [decide_eq_true c]; rfl
        simp only [e0, Bool.false_eq_true, if_false]
        refine sp_next ?_
        have p120 : (2 : Int) ^ 120 = 1329227995784915872903807060280344576 := (by decide)
        have bq : Bit 130 q := by unfold Bit; omega
        have bq2 : Bit 130 (2 * q) := by unfold Bit; omega
        have ba : Bit 140 (2 * a) := by unfold Bit; omega
        have ba2 : Bit 140 (2 * a + 2) := by unfold Bit; omega
        have bb1 : Bit 140 (2 * b) := by rw [← c]; exact ba
        have bb2 : Bit 140 (2 * b + 2) := by rw [← c]; exact ba2
        have k1 : 0 ≤ besN N (2 * a) (2 * q) := by rw [sc1 a q q0]; exact a1
        have k2 : besN N (2 * a + 2) (2 * q) < 0 := by rw [show 2 * a + 2 = 2 * (a + 1) by omega, sc1 (a + 1) q q0]; exact a2
        have k3 : 0 ≤ besN M (2 * b) (2 * q) := by rw [sc2 b q q0]; exact b1
        have k4 : besN M (2 * b + 2) (2 * q) < 0 := by rw [show 2 * b + 2 = 2 * (b + 1) by omega, sc2 (b + 1) q q0]; exact b2
        have b398 : (2 : Int) ≤ 2 ^ 398 := by decide
        obtain ⟨n1, g1, u1, u2, u3, u4⟩ := f1 (2 * q) (2 * a) (2 * a + 2) H ba ba2 bq2 k1 k2 (by omega) (by omega)
        obtain ⟨n2, g2, v1, v2, v3, v4⟩ := f2 (2 * q) (2 * b) (2 * b + 2) H bb1 bb2 bq2 k3 k4 (by omega) (by omega)
        have s2 : Bit 4 2 := bit2
        have ba' : Bit 140 a := by unfold Bit at ba ⊢; omega
        have bb' : Bit 140 b := by rw [← c]; exact ba'
        have m1' : ∀ J : IH, mulM (.int q) (.int 2) J = .ok (.int (2 * q)) J := fun J => by rw [Int.mul_comm]; exact mulM_int (small_of bq s2 (by decide) (by decide) (by decide))
        have m2' : ∀ J : IH, mulM (.int 2) (.int a) J = .ok (.int (2 * a)) J := fun J => mulM_int (small_of s2 ba' (by decide) (by decide) (by decide))
        have m3' : ∀ J : IH, mulM (.int 2) (.int b) J = .ok (.int (2 * b)) J := fun J => mulM_int (small_of s2 bb' (by decide) (by decide) (by decide))
        try simp only [setsE_cons, setsE_nil, List.set_cons_zero, List.set_cons_succ, List.map_cons, List.map_nil, List.length_cons, List.length_nil, List.cons_append, List.nil_append, List.append_nil, List.replicate_succ, List.replicate_zero, Nat.zero_add, Nat.reduceAdd, Nat.reduceSub, wipeE_nil, wipeE_cons, ↓reduceIte, Bool.false_eq_true, Bool.not_true, Bool.not_false]
        (first | refine sp_seq ?_ | refine sp_set ?_ | refine sp_if ?_ | refine sp_ret ?_ | refine sp_expr ?_ | refine sp_asg ?_ | refine sp_next ?_ | refine sp_brk ?_ | refine sp_cont ?_ | refine sp_raise ?_ | refine sp_put ?_ | refine sp_retN ?_ | refine sp_par ?_ | refine sp_asgL ?_)
        try dsimp only
        (first | refine sp_seq ?_ | refine sp_set ?_ | refine sp_if ?_ | refine sp_ret ?_ | refine sp_expr ?_ | refine sp_asg ?_ | refine sp_next ?_ | refine sp_brk ?_ | refine sp_cont ?_ | refine sp_raise ?_ | refine sp_put ?_ | refine sp_retN ?_ | refine sp_par ?_ | refine sp_asgL ?_)
        try dsimp only
        conv => (arg 1; simp [okV_iD, okV_dr, okV_dPt, okV_dP, okV_dG, okV_dC, okV_dB, ix_wd, iD_def, m1'])
        refine rp_ok ?_
        try dsimp only
        try simp only [setsE_cons, setsE_nil, List.set_cons_zero, List.set_cons_succ, List.map_cons, List.map_nil, List.length_cons, List.length_nil, List.cons_append, List.nil_append, List.append_nil, List.replicate_succ, List.replicate_zero, Nat.zero_add, Nat.reduceAdd, Nat.reduceSub, wipeE_nil, wipeE_cons, ↓reduceIte, Bool.false_eq_true, Bool.not_true, Bool.not_false]
        (first | refine sp_seq ?_ | refine sp_set ?_ | refine sp_if ?_ | refine sp_ret ?_ | refine sp_expr ?_ | refine sp_asg ?_ | refine sp_next ?_ | refine sp_brk ?_ | refine sp_cont ?_ | refine sp_raise ?_ | refine sp_put ?_ | refine sp_retN ?_ | refine sp_par ?_ | refine sp_asgL ?_)
        try dsimp only
        (first | refine sp_seq ?_ | refine sp_set ?_ | refine sp_if ?_ | refine sp_ret ?_ | refine sp_expr ?_ | refine sp_asg ?_ | refine sp_next ?_ | refine sp_brk ?_ | refine sp_cont ?_ | refine sp_raise ?_ | refine sp_put ?_ | refine sp_retN ?_ | refine sp_par ?_ | refine sp_asgL ?_)
        try dsimp only
        conv => (arg 1; simp [okV_iD, okV_dr, okV_dPt, okV_dP, okV_dG, okV_dC, okV_dB, ix_wd, iD_def, okN, m2', g1])
        refine rp_ok ?_
        try dsimp only
        try simp only [setsE_cons, setsE_nil, List.set_cons_zero, List.set_cons_succ, List.map_cons, List.map_nil, List.length_cons, List.length_nil, List.cons_append, List.nil_append, List.append_nil, List.replicate_succ, List.replicate_zero, Nat.zero_add, Nat.reduceAdd, Nat.reduceSub, wipeE_nil, wipeE_cons, ↓reduceIte, Bool.false_eq_true, Bool.not_true, Bool.not_false]
        (first | refine sp_seq ?_ | refine sp_set ?_ | refine sp_if ?_ | refine sp_ret ?_ | refine sp_expr ?_ | refine sp_asg ?_ | refine sp_next ?_ | refine sp_brk ?_ | refine sp_cont ?_ | refine sp_raise ?_ | refine sp_put ?_ | refine sp_retN ?_ | refine sp_par ?_ | refine sp_asgL ?_)
        try dsimp only
        conv => (arg 1; simp [okV_iD, okV_dr, okV_dPt, okV_dP, okV_dG, okV_dC, okV_dB, ix_wd, iD_def, okM, m3', g2])
        refine rp_ok ?_
        try dsimp only
        try simp only [setsE_cons, setsE_nil, List.set_cons_zero, List.set_cons_succ, List.map_cons, List.map_nil, List.length_cons, List.length_nil, List.cons_append, List.nil_append, List.append_nil, List.replicate_succ, List.replicate_zero, Nat.zero_add, Nat.reduceAdd, Nat.reduceSub, wipeE_nil, wipeE_cons, ↓reduceIte, Bool.false_eq_true, Bool.not_true, Bool.not_false]
        exact turn_next (vs := [_, _, _, _]) rfl ⟨n1, n2, _, rfl, rfl, u1, u2, v1, v2, by omega, by omega⟩
      · have e0 : (!decide (a = b)) = true := by rw [decide_eq_false c]; rfl
        simp only [e0, if_true]
        refine sp_brk ?_
        have r := tb q0 a1 a2 b1 b2 (.inl c)
        try simp only [setsE_cons, setsE_nil, List.set_cons_zero, List.set_cons_succ, List.map_cons, List.map_nil, List.length_cons, List.length_nil, List.cons_append, List.nil_append, List.append_nil, List.replicate_succ, List.replicate_zero, Nat.zero_add, Nat.reduceAdd, Nat.reduceSub, wipeE_nil, wipeE_cons, ↓reduceIte, Bool.false_eq_true, Bool.not_true, Bool.not_false]
        (first | refine sp_seq ?_ | refine sp_set ?_ | refine sp_if ?_ | refine sp_ret ?_ | refine sp_expr ?_ | refine sp_asg ?_ | refine sp_next ?_ | refine sp_brk ?_ | refine sp_cont ?_ | refine sp_raise ?_ | refine sp_put ?_ | refine sp_retN ?_ | refine sp_par ?_ | refine sp_asgL ?_)
        try dsimp only
        conv => (arg 1; simp [okV_iD, okV_dr, okV_dPt, okV_dP, okV_dG, okV_dC, okV_dB, ix_wd, iD_def, int_dec])
        refine rp_ok ?_
        try dsimp only
        try simp only [setsE_cons, setsE_nil, List.set_cons_zero, List.set_cons_succ, List.map_cons, List.map_nil, List.length_cons, List.length_nil, List.cons_append, List.nil_append, List.append_nil, List.replicate_succ, List.replicate_zero, Nat.zero_add, Nat.reduceAdd, Nat.reduceSub, wipeE_nil, wipeE_cons, ↓reduceIte, Bool.false_eq_true, Bool.not_true, Bool.not_false]
        exact tq_same ⟨by rw [← r], rfl⟩
    · rintro vs H ⟨a, b, x5, rfl, rfl, a1, a2, b1, b2, ab, bb⟩
      have r := tb (q := 2 ^ 120) (by decide) a1 a2 b1 b2 (.inr rfl)
      try simp only [setsE_cons, setsE_nil, List.set_cons_zero, List.set_cons_succ, List.map_cons, List.map_nil, List.length_cons, List.length_nil, List.cons_append, List.nil_append, List.append_nil, List.replicate_succ, List.replicate_zero, Nat.zero_add, Nat.reduceAdd, Nat.reduceSub, wipeE_nil, wipeE_cons, ↓reduceIte, Bool.false_eq_true, Bool.not_true, Bool.not_false]
      (first | refine sp_seq ?_ | refine sp_set ?_ | refine sp_if ?_ | refine sp_ret ?_ | refine sp_expr ?_ | refine sp_asg ?_ | refine sp_next ?_ | refine sp_brk ?_ | refine sp_cont ?_ | refine sp_raise ?_ | refine sp_put ?_ | refine sp_retN ?_ | refine sp_par ?_ | refine sp_asgL ?_)
      try dsimp only
      conv => (arg 1; simp [okV_iD, okV_dr, okV_dPt, okV_dP, okV_dG, okV_dC, okV_dB, ix_wd, iD_def, int_dec])
      refine rp_ok ?_
      try dsimp only
      try simp only [setsE_cons, setsE_nil, List.set_cons_zero, List.set_cons_succ, List.map_cons, List.map_nil, List.length_cons, List.length_nil, List.cons_append, List.nil_append, List.append_nil, List.replicate_succ, List.replicate_zero, Nat.zero_add, Nat.reduceAdd, Nat.reduceSub, wipeE_nil, wipeE_cons, ↓reduceIte, Bool.false_eq_true, Bool.not_true, Bool.not_false]
      exact tq_same ⟨by rw [← r], rfl⟩
end
end Zc
/-! K11D: a number near another. -/
namespace Zc
open PySem L2 Z Q
section
variable {h : IH} {N M : Nb} {Q1 : Nat}
/-- a floor is not far off -/
theorem floor_near {n q : Int} (o : OkNb 40 N) (hx : -100 ≤ xN N ∧ xN N ≤ 100) (hq : 0 < q) (h1 : 0 ≤ besN N n q) (h2 : besN N (n + 1) q < 0) : -1102 ≤ Rat.divInt n q ∧ Rat.divInt n q ≤ 1102 ∧ Rat.divInt (n + 1) q ≤ 1103 := by
  obtain ⟨K1, k1⟩ := (bes_is (n := n) o hq).ge h1 (show (0 : Rat) < 1 by decide +kernel)
  obtain ⟨d2, d20, K2, k2⟩ := (bes_is (n := n + 1) o hq).lt h2
  have a : -1 ≤ xN N + uN N * rt (fN N) (K1 + K2) - Rat.divInt n q := k1 (K1 + K2) (by omega)
  have b : d2 ≤ -(xN N + uN N * rt (fN N) (K1 + K2) - Rat.divInt (n + 1) q) := k2 (K1 + K2) (by omega)
  have u := uN_le o (K1 + K2)
  have q0 : ((1 : Int) : Rat) ≤ ((q : Int) : Rat) := Rat.intCast_le_intCast.mpr (by omega)
  have q0 : (1 : Rat) ≤ (q : Rat) := q0
  have e : Rat.divInt (n + 1) q = Rat.divInt n q + 1 / (q : Rat) := by
    rw [Rat.divInt_eq_div, Rat.divInt_eq_div, Rat.intCast_add]
    have one : (((1 : Int) : Int) : Rat) = 1 := rfl
    rw [one]
    grind
  have i1 : 1 / (q : Rat) * (q : Rat) = 1 := div_mul_c (by grind)
  rw [e] at b ⊢
  generalize 1 / (q : Rat) = i at *
  have i2 : i ≤ 1 ∧ 0 ≤ i := by
    rcases Rat.le_total (a := 0) (b := i) with z | z
    · have := Rat.mul_nonneg (a := i) (b := (q : Rat) - 1) z (by grind)
      grind
    · have := Rat.mul_nonneg (a := -i) (b := (q : Rat) - 1) (by grind) (by grind)
      grind
  clear k1 k2
  grind
theorem bes_one {n q : Int} (o : OkNb Q1 N) (hq : 0 < q) : besN N (n * q) q = besN N n 1 := by
  have e : Rat.divInt (n * q) q = Rat.divInt n 1 := by
    rw [Rat.divInt_eq_divInt_iff (by omega) (by omega)]
    grind
  exact (bes_is o hq).uniq ((bes_is (n := n) o (by decide : (0 : Int) < 1)).eq fun k => by rw [e])
theorem ok_up (o : OkNb 40 N) : OkNb 9999 N := by
  cases N with
  | rat x => exact ⟨Nat.le_trans o.1 (by decide), o.2⟩
  | root c b a w => exact ⟨o.1, by have := o.2; omega⟩
theorem ok_div {n q : Int} (hq : 1 ≤ q) (h9 : q ≤ 9999) (h1 : -1999 ≤ Rat.divInt n q) (h2 : Rat.divInt n q ≤ 1999) : OkNb 9999 (.rat (Rat.divInt n q)) :=
  ⟨by have := den_le (i := n) hq; omega, h1, h2⟩
theorem ev_near {n s : Nat} (o : OkNb 40 N) (hx : -100 ≤ xN N ∧ xN N ≤ 100) (w : Strm n h s) (hn : n ≤ 800000000) : ∃ (M : Nb) (h' : IH), F__law_near [.ref s, dNb N] h = .ok (dNb M) h' ∧ OkNb 9999 M ∧ Drawn (n + 3) h s h' := by
  obtain ⟨d0, h0, e0, d00, d01, w0⟩ := ev_next w (by omega) (show (0 : Int) < 3 by decide) (b := 10) (Bit.pos (by decide) (by decide))
  have okN : ∀ J : IH, okV J (dNb N) = .ok (dNb N) J := fun J => by cases N <;> rfl
  have wd0 := w0.dr
  by_cases c0 : d0 = 0
  · refine ⟨N, h0, ?_, ok_up o, ⟨wd0.st.mono (by omega), wd0.len, wd0.keep⟩⟩
    simp [F__law_near, M__law_near, defM, e0, c0, okN]
    exact trunc_len wd0.len
  · by_cases c1 : d0 = 1 ∧ ∃ c b a w, N = .root c b a w
    · obtain ⟨c1, c, b, a, w', rfl⟩ := c1
      have r := o.1
      have hw := r.w01
      refine ⟨.root c b a (1 - w'), h0, ?_, ⟨⟨r.a0, r.g, r.d0, r.ns, by omega, r.ba, r.bb, r.bc⟩, by have := o.2; omega⟩, ⟨wd0.st.mono (by omega), wd0.len, wd0.keep⟩⟩
      have e1 : ∀ J : IH, eqM (.str "root") (.str "root") J = .ok (.bl true) J := fun J => by unfold eqM; rw [eqB_str (by decide +kernel) (by decide +kernel)]; simp
      show F__law_near [.ref s, rootD c b a w'] h = .ok (rootD c b a (1 - w')) h0
      simp [F__law_near, M__law_near, defM, e0, c1, rootD, e1, tupM_eq]
      exact trunc_len wd0.len
    · obtain ⟨d1, h1, e1, d10, d11, w1⟩ := ev_next w0.st (by omega) (show (0 : Int) < 9999 by decide) (b := 20) (Bit.pos (by decide) (by decide))
      obtain ⟨q, hq⟩ : ∃ q, q = 1 + d1 := ⟨_, rfl⟩
      have q1 : 1 ≤ q := by omega
      have q9 : q ≤ 9999 := by omega
      have bq : Bit 20 q := by unfold Bit; omega
      have b2k : Bit 20 2000 := by unfold Bit; decide
      have b2n : Bit 20 (-2000) := by unfold Bit; decide
      have ends := bes_ends o
      have k1 : 0 ≤ besN N (-2000 * q) q := by rw [bes_one o (by omega)]; exact ends.1
      have k2 : besN N (2000 * q) q < 0 := by rw [bes_one o (by omega)]; exact ends.2
      have p398 : (40000000 : Int) ≤ 2 ^ 398 := (by decide)
      obtain ⟨f, ef, f1, f2, f3, f4⟩ := ev_floor (h := h1) o (by decide) (by unfold Bit; omega) (by unfold Bit; omega) (by unfold Bit; omega) k1 k2 (by omega) (by omega)
      obtain ⟨d2, h2, e2, d20, d21, w2⟩ := ev_next w1.st (by omega) (show (0 : Int) < 2 by decide) (b := 10) (Bit.pos (by decide) (by decide))
      have wd := (w0.dr.trans w1.dr).trans w2.dr
      have nr := floor_near o hx (by omega) f1 f2
      have m1 := fun h => mulM_int (h := h) (small_of b2n bq (by decide) (by decide) (by decide))
      have m2 := fun h => mulM_int (h := h) (small_of b2k bq (by decide) (by decide) (by decide))
      have lo := fun h => ev_law_lowR (h := h) (n := f + d2) (d := q) (by omega) bq (by decide) (by decide)
      have rr : -1999 ≤ Rat.divInt (f + d2) q ∧ Rat.divInt (f + d2) q ≤ 1999 := by
        rcases (show d2 = 0 ∨ d2 = 1 by omega) with z | z <;> subst z
        · rw [Int.add_zero]; grind
        · have le := divInt_le (n := f) (m := f + 1) (q := q) (by omega) (by omega)
          grind
      refine ⟨.rat (Rat.divInt (f + d2) q), h2, ?_, ok_div q1 q9 rr.1 rr.2, ⟨wd.st.mono (by omega), wd.len, wd.keep⟩⟩
      show _ = R.ok (D.tup [.str "rational", dr (Rat.divInt (f + d2) q)]) h2
      have a1 : ∀ J : IH, addM (.int 1) (.int d1) J = .ok (.int q) J := fun J => by rw [hq]; rfl
      by_cases c3 : d0 = 1
      · cases N with
        | root c b a w => exact absurd ⟨c3, c, b, a, w, rfl⟩ c1
        | rat x =>
          have e3 : ∀ J : IH, eqM (.str "rational") (.str "root") J = .ok (.bl false) J := fun J => by unfold eqM; rw [eqB_str (by decide +kernel) (by decide +kernel)]; simp; decide +kernel
          have ix : ∀ J : IH, ixM (dNb (.rat x)) (.int 0) J = .ok (.str "rational") J := fun J => rfl
          generalize dNb (.rat x) = dn at *
          simp [F__law_near, M__law_near, defM, e0, c3, okN, ix, e3, e1, ← hq, m1, m2, ef, e2, lo, tupM_eq]
          exact trunc_len wd.len
      · generalize dNb N = dn at *
        simp [F__law_near, M__law_near, defM, e0, c0, c3, okN, e1, ← hq, m1, m2, ef, e2, lo, tupM_eq]
        exact trunc_len wd.len
end
end Zc
namespace Zl
open PySem L2 Z Zc Q
theorem sub1 : subT "BadValue" "BadValue" = some true := by decide +kernel
theorem fok1 : fokT "BadValue" "name" = true := by decide +kernel
section
variable {h : IH} {N M : Nb} {d : D}
theorem okV_nb : okV h (dNb N) = .ok (dNb N) h := by cases N <;> rfl
theorem told_cmp (o1 : OkNb 9999 N) (o2 : OkNb 9999 M) : F__law_told [dNb N, dNb M] h = .ok (.int (cmpN N M)) h := by
  have q := ev_cmp (h := h) o1 o2
  have k1 := okV_nb (h := h) (N := N)
  have k2 := okV_nb (h := h) (N := M)
  generalize dNb N = dn at *
  generalize dNb M = dm at *
  simp [F__law_told, M__law_told, defM, k1, k2, q]
theorem told_first (hd : okV h d = .ok d h) (e : F_is_number [d] h = .ok (.bl false) h) : F__law_told [d, d] h = .ok (.str "first") h := by
  have c := check_no (nm := "first") hd e
  have q : F_compare_numbers [d, d] h = .exc ⟨"BadValue", [("name", .str "first")]⟩ h := by simp [F_compare_numbers, M_compare_numbers, defM, hd, c]
  simp [F__law_told, M__law_told, defM, hd, q, sub1, fok1]
theorem told_second (o1 : OkNb 9999 N) (hd : okV h d = .ok d h) (e : F_is_number [d] h = .ok (.bl false) h) : F__law_told [dNb N, d] h = .ok (.str "second") h := by
  have c1 := check_yes (h := h) (nm := "first") okV_nb rfl (ev_is_nb o1)
  have c := check_no (nm := "second") hd e
  have k1 := okV_nb (h := h) (N := N)
  generalize dNb N = dn at *
  have q : F_compare_numbers [dn, d] h = .exc ⟨"BadValue", [("name", .str "second")]⟩ h := by simp [F_compare_numbers, M_compare_numbers, defM, hd, k1, c1, c]
  simp [F__law_told, M__law_told, defM, hd, k1, q, sub1, fok1]
theorem nb_of {d : D} (hd : (∃ r : Rat, d = .tup [.str "rational", dr r] ∧ ∃ i j : Int, r = Rat.divInt i j ∧ -60 ≤ i ∧ i ≤ 60 ∧ 1 ≤ j ∧ j ≤ 40) ∨ ∃ c b a w, d = rootD c b a w ∧ RootOk c b a w) : ∃ N, d = dNb N ∧ OkNb 40 N ∧ (-100 ≤ xN N ∧ xN N ≤ 100) := by
  rcases hd with ⟨r, rfl, i, j, rfl, i1, i2, j1, j2⟩ | ⟨c, b, a, w, rfl, r⟩
  · have q := half_le (i := i) (a := j) (B := 60) (by omega) (by omega) (by omega)
    have q : -(60 : Rat) ≤ Rat.divInt i j ∧ Rat.divInt i j ≤ 60 := q
    refine ⟨.rat (Rat.divInt i j), rfl, ok_rat (B := 60) j1 (by omega) (by decide) (by omega) (by omega), ?_⟩
    show -100 ≤ Rat.divInt i j ∧ Rat.divInt i j ≤ 100
    grind
  · have a0 := r.a0
    have ba := r.ba
    have bb := r.bb
    refine ⟨.root c b a w, rfl, ⟨r, by omega⟩, ?_⟩
    have q := half_le (i := -b) (a := 2 * a) (B := 100) (by omega) (by omega) (by omega)
    exact q
theorem strm_ap {n s : Nat} {h h' : IH} (w : Strm n h s) (a : Ap h h') : Strm n h' s := by
  obtain ⟨l, ns, c, k, e1, e2, r⟩ := w
  exact ⟨l, ns, c, k, a.get e1, a.get e2, r⟩
def elN : Nb → List D
  | .rat x => [.str "rational", dr x]
  | .root c b a w => [.str "root", .tup [.int c, .int b, .int a], .int w]
theorem lsN {J : IH} : listF [dNb N] J = .ok (.ref J.length) (J ++ [.lst (elN N)]) := by cases N <;> rfl
theorem menu11 {k3 k4 : Nat} {d6 : Int} {u : List D} (hL : h[k4]? = some (.lst [.ref k3, .non, .tup [.str "rational", .tup [.int 2, .int 2]], .int 0])) (h2 : h[k3]? = some (.lst u)) (d0 : 0 ≤ d6) (d1 : d6 < 4) :
    ∃ d, ixM (.ref k4) (.int d6) h = .ok d h ∧ okV h d = .ok d h ∧ F_is_number [d] h = .ok (.bl false) h := by
  rw [ixM_ref hL]
  have : d6 = 0 ∨ d6 = 1 ∨ d6 = 2 ∨ d6 = 3 := by omega
  rcases this with rfl | rfl | rfl | rfl
  · exact ⟨_, by rfl, rfl, num_false (tyN_ref h2) (by decide +kernel)⟩
  · exact ⟨_, by rfl, rfl, num_false rfl (by decide +kernel)⟩
  · exact ⟨_, by rfl, rfl, num_rat (by simp [F_is_rational, M_is_rational, defM, ev_is_integer])⟩
  · exact ⟨_, by rfl, rfl, num_false rfl (by decide +kernel)⟩
theorem rest11 {n : Nat} {x0 x4 x5 : Option D} (o1 : OkNb 40 N) (o2 : OkNb 9999 M) (w : Strm n h 1) (hn : n ≤ 1000) : sp ((seqM (setM 4 (callM F__law_compare (aconsM (varM 2) (aconsM (varM 3) anilM)))) (seqM (ifM (tnotM (testM (callM F__law_equal (aconsM (lstM (aconsM (callM F__law_told (aconsM (varM 2) (aconsM (varM 3) anilM))) (aconsM (callM F__law_told (aconsM (varM 3) (aconsM (varM 2) anilM))) anilM))) (aconsM (lstM (aconsM (varM 4) (aconsM (binM subM (constM (.int 0)) (varM 4)) anilM))) anilM))))) (retM (constM (.bl false))) nextM) (seqM (setM 5 (binM ixM (lstM (aconsM (callM listF (aconsM (varM 2) anilM)) (aconsM (constM .non) (aconsM (tupM (aconsM (constM (.str "rational")) (aconsM (tupM (aconsM (constM (.int 2)) (aconsM (constM (.int 2)) anilM))) anilM))) (aconsM (constM (.int 0)) anilM))))) (callM F__law_next (aconsM (varM 1) (aconsM (constM (.int 4)) anilM))))) (retM (andM (binM eqM (callM F__law_told (aconsM (varM 5) (aconsM (varM 5) anilM))) (constM (.str "first"))) (binM eqM (callM F__law_told (aconsM (varM 2) (aconsM (varM 5) anilM))) (constM (.str "second")))))))) [x0, some (.ref 1), some (dNb N), some (dNb M), x4, x5] h) (dct [] (fun d _ => d = .bl true) noX) := by
  have ok : ∀ (N : Nb) (J : IH), okV J (dNb N) = .ok (dNb N) J := fun N J => okV_nb
  have u1 := ok_up o1
  have ec : ∀ J : IH, F__law_compare [dNb N, dNb M] J = .ok (.int (cmpN N M)) J := fun J => ev_compare o1 o2
  have t1 : ∀ J : IH, F__law_told [dNb N, dNb M] J = .ok (.int (cmpN N M)) J := fun J => told_cmp u1 o2
  have t2 : ∀ J : IH, F__law_told [dNb M, dNb N] J = .ok (.int (0 - cmpN N M)) J := fun J => by rw [told_cmp o2 u1, cmp_anti (N := N) (M := M), Int.zero_sub]
  (first | refine sp_seq ?_ | refine sp_set ?_ | refine sp_if ?_ | refine sp_ret ?_ | refine sp_expr ?_ | refine sp_asg ?_ | refine sp_next ?_ | refine sp_brk ?_ | refine sp_cont ?_ | refine sp_raise ?_ | refine sp_put ?_ | refine sp_retN ?_ | refine sp_par ?_ | refine sp_asgL ?_)
  try dsimp only
  (first | refine sp_seq ?_ | refine sp_set ?_ | refine sp_if ?_ | refine sp_ret ?_ | refine sp_expr ?_ | refine sp_asg ?_ | refine sp_next ?_ | refine sp_brk ?_ | refine sp_cont ?_ | refine sp_raise ?_ | refine sp_put ?_ | refine sp_retN ?_ | refine sp_par ?_ | refine sp_asgL ?_)
  try dsimp only
  conv => (arg 1; simp [okV_iD, okV_dr, okV_dPt, okV_dP, okV_dG, okV_dC, okV_dB, ix_wd, iD_def, ok, ec])
  refine rp_ok ?_
  try dsimp only
  try simp only [setsE_cons, setsE_nil, List.set_cons_zero, List.set_cons_succ, List.map_cons, List.map_nil, List.length_cons, List.length_nil, List.cons_append, List.nil_append, List.append_nil, List.replicate_succ, List.replicate_zero, Nat.zero_add, Nat.reduceAdd, Nat.reduceSub, wipeE_nil, wipeE_cons, ↓reduceIte, Bool.false_eq_true, Bool.not_true, Bool.not_false]
  (first | refine sp_seq ?_ | refine sp_set ?_ | refine sp_if ?_ | refine sp_ret ?_ | refine sp_expr ?_ | refine sp_asg ?_ | refine sp_next ?_ | refine sp_brk ?_ | refine sp_cont ?_ | refine sp_raise ?_ | refine sp_put ?_ | refine sp_retN ?_ | refine sp_par ?_ | refine sp_asgL ?_)
  try dsimp only
  (first | refine sp_seq ?_ | refine sp_set ?_ | refine sp_if ?_ | refine sp_ret ?_ | refine sp_expr ?_ | refine sp_asg ?_ | refine sp_next ?_ | refine sp_brk ?_ | refine sp_cont ?_ | refine sp_raise ?_ | refine sp_put ?_ | refine sp_retN ?_ | refine sp_par ?_ | refine sp_asgL ?_)
  try dsimp only
  refine rp_tnot (rp_test (rp_call (rp_acons (rp_lst (rp_acons ?_)))))
  conv => (arg 1; simp [okV_iD, okV_dr, okV_dPt, okV_dP, okV_dG, okV_dC, okV_dB, ix_wd, iD_def, ok, t1])
  refine rp_ok ?_
  try dsimp only
  try simp only [setsE_cons, setsE_nil, List.set_cons_zero, List.set_cons_succ, List.map_cons, List.map_nil, List.length_cons, List.length_nil, List.cons_append, List.nil_append, List.append_nil, List.replicate_succ, List.replicate_zero, Nat.zero_add, Nat.reduceAdd, Nat.reduceSub, wipeE_nil, wipeE_cons, ↓reduceIte, Bool.false_eq_true, Bool.not_true, Bool.not_false]
  refine rp_acons ?_
  conv => (arg 1; simp [okV_iD, okV_dr, okV_dPt, okV_dP, okV_dG, okV_dC, okV_dB, ix_wd, iD_def, ok, t2])
  refine rp_ok ?_
  try dsimp only
  try simp only [setsE_cons, setsE_nil, List.set_cons_zero, List.set_cons_succ, List.map_cons, List.map_nil, List.length_cons, List.length_nil, List.cons_append, List.nil_append, List.append_nil, List.replicate_succ, List.replicate_zero, Nat.zero_add, Nat.reduceAdd, Nat.reduceSub, wipeE_nil, wipeE_cons, ↓reduceIte, Bool.false_eq_true, Bool.not_true, Bool.not_false]
  refine rp_anil ⟨by simp, ?_⟩
  intro k1 h1 A1 q1 n1 _
  refine rp_acons (rp_lst (rp_acons ?_))
  conv => (arg 1; simp [okV_iD, okV_dr, okV_dPt, okV_dP, okV_dG, okV_dC, okV_dB, ix_wd, iD_def])
  refine rp_ok ?_
  try dsimp only
  try simp only [setsE_cons, setsE_nil, List.set_cons_zero, List.set_cons_succ, List.map_cons, List.map_nil, List.length_cons, List.length_nil, List.cons_append, List.nil_append, List.append_nil, List.replicate_succ, List.replicate_zero, Nat.zero_add, Nat.reduceAdd, Nat.reduceSub, wipeE_nil, wipeE_cons, ↓reduceIte, Bool.false_eq_true, Bool.not_true, Bool.not_false]
  refine rp_acons ?_
  conv => (arg 1; simp [okV_iD, okV_dr, okV_dPt, okV_dP, okV_dG, okV_dC, okV_dB, ix_wd, iD_def])
  refine rp_ok ?_
  try dsimp only
  try simp only [setsE_cons, setsE_nil, List.set_cons_zero, List.set_cons_succ, List.map_cons, List.map_nil, List.length_cons, List.length_nil, List.cons_append, List.nil_append, List.append_nil, List.replicate_succ, List.replicate_zero, Nat.zero_add, Nat.reduceAdd, Nat.reduceSub, wipeE_nil, wipeE_cons, ↓reduceIte, Bool.false_eq_true, Bool.not_true, Bool.not_false]
  refine rp_anil ⟨by simp, ?_⟩
  intro k2 h2 A2 q2 n2 _
  refine rp_anil ?_
  have eqL : F__law_equal [.ref k1, .ref k2] h2 = .ok (.bl true) h2 := by
    refine eq_refZ (k := 9) (A2.get q1) q2 rfl (by simp) fun p hp => ?_
    simp at hp
    rcases hp with rfl | rfl
    · exact (eq_int (k := 8)).trans (by rw [decide_eq_true rfl])
    · exact (eq_int (k := 8)).trans (by rw [decide_eq_true rfl])
  refine rp_eq (eqL) ?_
  try dsimp only
  try simp only [setsE_cons, setsE_nil, List.set_cons_zero, List.set_cons_succ, List.map_cons, List.map_nil, List.length_cons, List.length_nil, List.cons_append, List.nil_append, List.append_nil, List.replicate_succ, List.replicate_zero, Nat.zero_add, Nat.reduceAdd, Nat.reduceSub, wipeE_nil, wipeE_cons, ↓reduceIte, Bool.false_eq_true, Bool.not_true, Bool.not_false]
  refine ⟨_, rfl, ?_⟩
  try dsimp only
  (first | refine sp_seq ?_ | refine sp_set ?_ | refine sp_if ?_ | refine sp_ret ?_ | refine sp_expr ?_ | refine sp_asg ?_ | refine sp_next ?_ | refine sp_brk ?_ | refine sp_cont ?_ | refine sp_raise ?_ | refine sp_put ?_ | refine sp_retN ?_ | refine sp_par ?_ | refine sp_asgL ?_)
  try dsimp only
  (first | refine sp_seq ?_ | refine sp_set ?_ | refine sp_if ?_ | refine sp_ret ?_ | refine sp_expr ?_ | refine sp_asg ?_ | refine sp_next ?_ | refine sp_brk ?_ | refine sp_cont ?_ | refine sp_raise ?_ | refine sp_put ?_ | refine sp_retN ?_ | refine sp_par ?_ | refine sp_asgL ?_)
  try dsimp only
  (first | refine sp_seq ?_ | refine sp_set ?_ | refine sp_if ?_ | refine sp_ret ?_ | refine sp_expr ?_ | refine sp_asg ?_ | refine sp_next ?_ | refine sp_brk ?_ | refine sp_cont ?_ | refine sp_raise ?_ | refine sp_put ?_ | refine sp_retN ?_ | refine sp_par ?_ | refine sp_asgL ?_)
  try dsimp only
  refine rp_bin (rp_lst (rp_acons ?_))
  conv => (arg 1; simp [okV_iD, okV_dr, okV_dPt, okV_dP, okV_dG, okV_dC, okV_dB, ix_wd, iD_def, ok, lsN])
  refine rp_ok ?_
  try dsimp only
  try simp only [setsE_cons, setsE_nil, List.set_cons_zero, List.set_cons_succ, List.map_cons, List.map_nil, List.length_cons, List.length_nil, List.cons_append, List.nil_append, List.append_nil, List.replicate_succ, List.replicate_zero, Nat.zero_add, Nat.reduceAdd, Nat.reduceSub, wipeE_nil, wipeE_cons, ↓reduceIte, Bool.false_eq_true, Bool.not_true, Bool.not_false]
  have A3 : Ap h2 (h2 ++ [.lst (elN N)]) := .app
  have q3 : (h2 ++ [.lst (elN N)])[h2.length]? = some (.lst (elN N)) := List.getElem?_concat_length
  generalize h2 ++ [.lst (elN N)] = h3 at A3 q3
  generalize hk3 : h2.length = k3 at q3
  refine rp_acons ?_
  conv => (arg 1; simp [okV_iD, okV_dr, okV_dPt, okV_dP, okV_dG, okV_dC, okV_dB, ix_wd, iD_def])
  refine rp_ok ?_
  try dsimp only
  try simp only [setsE_cons, setsE_nil, List.set_cons_zero, List.set_cons_succ, List.map_cons, List.map_nil, List.length_cons, List.length_nil, List.cons_append, List.nil_append, List.append_nil, List.replicate_succ, List.replicate_zero, Nat.zero_add, Nat.reduceAdd, Nat.reduceSub, wipeE_nil, wipeE_cons, ↓reduceIte, Bool.false_eq_true, Bool.not_true, Bool.not_false]
  refine rp_acons ?_
  conv => (arg 1; simp [okV_iD, okV_dr, okV_dPt, okV_dP, okV_dG, okV_dC, okV_dB, ix_wd, iD_def, tupM_eq])
  refine rp_ok ?_
  try dsimp only
  try simp only [setsE_cons, setsE_nil, List.set_cons_zero, List.set_cons_succ, List.map_cons, List.map_nil, List.length_cons, List.length_nil, List.cons_append, List.nil_append, List.append_nil, List.replicate_succ, List.replicate_zero, Nat.zero_add, Nat.reduceAdd, Nat.reduceSub, wipeE_nil, wipeE_cons, ↓reduceIte, Bool.false_eq_true, Bool.not_true, Bool.not_false]
  refine rp_acons ?_
  conv => (arg 1; simp [okV_iD, okV_dr, okV_dPt, okV_dP, okV_dG, okV_dC, okV_dB, ix_wd, iD_def])
  refine rp_ok ?_
  try dsimp only
  try simp only [setsE_cons, setsE_nil, List.set_cons_zero, List.set_cons_succ, List.map_cons, List.map_nil, List.length_cons, List.length_nil, List.cons_append, List.nil_append, List.append_nil, List.replicate_succ, List.replicate_zero, Nat.zero_add, Nat.reduceAdd, Nat.reduceSub, wipeE_nil, wipeE_cons, ↓reduceIte, Bool.false_eq_true, Bool.not_true, Bool.not_false]
  refine rp_anil ⟨by simp, ?_⟩
  intro k4 h4 A4 q4 n4 _
  obtain ⟨d6, h5, e6, d60, d61, w6⟩ := ev_next (strm_ap w ((A1.trans A2).trans (A3.trans A4))) (by omega) (show (0 : Int) < 4 by decide) (b := 10) (Bit.pos (by decide) (by decide))
  conv => (arg 1; simp [okV_iD, okV_dr, okV_dPt, okV_dP, okV_dG, okV_dC, okV_dB, ix_wd, iD_def, e6])
  refine rp_ok ?_
  try dsimp only
  try simp only [setsE_cons, setsE_nil, List.set_cons_zero, List.set_cons_succ, List.map_cons, List.map_nil, List.length_cons, List.length_nil, List.cons_append, List.nil_append, List.append_nil, List.replicate_succ, List.replicate_zero, Nat.zero_add, Nat.reduceAdd, Nat.reduceSub, wipeE_nil, wipeE_cons, ↓reduceIte, Bool.false_eq_true, Bool.not_true, Bool.not_false]
  have n41 : k4 ≠ 1 := by
    have := (strm_ap w ((A1.trans A2).trans A3)).lt
    omega
  have n31 : k3 ≠ 1 := fun z => by
    have := (strm_ap w (A1.trans A2)).lt
    omega
  obtain ⟨d, m1, m2, m3⟩ := menu11 (w6.get q4 n41) (w6.get (A4.get q3) n31) d60 d61
  refine rp_eq (m1) ?_
  try dsimp only
  try simp only [setsE_cons, setsE_nil, List.set_cons_zero, List.set_cons_succ, List.map_cons, List.map_nil, List.length_cons, List.length_nil, List.cons_append, List.nil_append, List.append_nil, List.replicate_succ, List.replicate_zero, Nat.zero_add, Nat.reduceAdd, Nat.reduceSub, wipeE_nil, wipeE_cons, ↓reduceIte, Bool.false_eq_true, Bool.not_true, Bool.not_false]
  (first | refine sp_seq ?_ | refine sp_set ?_ | refine sp_if ?_ | refine sp_ret ?_ | refine sp_expr ?_ | refine sp_asg ?_ | refine sp_next ?_ | refine sp_brk ?_ | refine sp_cont ?_ | refine sp_raise ?_ | refine sp_put ?_ | refine sp_retN ?_ | refine sp_par ?_ | refine sp_asgL ?_)
  try dsimp only
  have tf := told_first m2 m3
  have ts := told_second (N := N) u1 m2 m3
  have ok5 := ok N h5
  generalize dNb N = dn at *
  have b1 : ∀ J : IH, eqM (.str "first") (.str "first") J = .ok (.bl true) J := fun J => by unfold eqM; rw [eqB_str (by decide +kernel) (by decide +kernel)]; simp
  have b2 : ∀ J : IH, eqM (.str "second") (.str "second") J = .ok (.bl true) J := fun J => by unfold eqM; rw [eqB_str (by decide +kernel) (by decide +kernel)]; simp
  conv => (arg 1; simp [okV_iD, okV_dr, okV_dPt, okV_dP, okV_dG, okV_dC, okV_dB, ix_wd, iD_def, m2, ok5, tf, ts, b1, b2])
  refine rp_ok ?_
  try dsimp only
  try simp only [setsE_cons, setsE_nil, List.set_cons_zero, List.set_cons_succ, List.map_cons, List.map_nil, List.length_cons, List.length_nil, List.cons_append, List.nil_append, List.append_nil, List.replicate_succ, List.replicate_zero, Nat.zero_add, Nat.reduceAdd, Nat.reduceSub, wipeE_nil, wipeE_cons, ↓reduceIte, Bool.false_eq_true, Bool.not_true, Bool.not_false]
  exact tq_ap ⟨Nat.zero_le _, fun i hi => by simp at hi⟩ rfl rfl
theorem law_true (ns : List Int) (hl : ns.length ≤ 63) : ∃ h, F_law [.fz (ns.map .int)] [] = .ok (.bl true) h := by
  have goal : rp (F_law [.fz (ns.map .int)] []) (fun d _ => d = .bl true) noX := by
    have e0 := ev_stream (ds := ns) (h := [])
    obtain ⟨d1, h1, e1, w1, p1⟩ := ev_law_number_t (strm0 (ds := ns)) (by decide)
    obtain ⟨d2, h2, e2, w2, p2⟩ := ev_law_number_t w1.st (by decide)
    obtain ⟨N, rfl, oN, xN⟩ := nb_of (p1)
    obtain ⟨M, rfl, oM, xM⟩ := nb_of (p2)
    obtain ⟨d, h3, e3, d0, d3, w3⟩ := ev_next w2.st (by decide) (show (0 : Int) < 3 by decide) (b := 10) (Bit.pos (by decide) (by decide))
    have e1' : F__law_number [.ref 1] [.lst (ns.map .int), .lst [.ref 0, .int 0, .int 0]] = .ok (dNb N) h1 := e1
    have ok : ∀ (N : Nb) (J : IH), okV J (dNb N) = .ok (dNb N) J := fun N J => okV_nb
    unfold F_law M_law
    refine rp_def ?_
    simp only [setsE_cons, setsE_nil, List.set_cons_zero, List.set_cons_succ, List.map_cons, List.map_nil, List.length_cons, List.length_nil, List.cons_append, List.nil_append, List.append_nil, List.replicate_succ, List.replicate_zero, Nat.zero_add, Nat.reduceAdd, Nat.reduceSub, wipeE_nil, wipeE_cons, ↓reduceIte, Bool.false_eq_true, Bool.not_true, Bool.not_false]
    (first | refine sp_seq ?_ | refine sp_set ?_ | refine sp_if ?_ | refine sp_ret ?_ | refine sp_expr ?_ | refine sp_asg ?_ | refine sp_next ?_ | refine sp_brk ?_ | refine sp_cont ?_ | refine sp_raise ?_ | refine sp_put ?_ | refine sp_retN ?_ | refine sp_par ?_ | refine sp_asgL ?_)
    try dsimp only
    (first | refine sp_seq ?_ | refine sp_set ?_ | refine sp_if ?_ | refine sp_ret ?_ | refine sp_expr ?_ | refine sp_asg ?_ | refine sp_next ?_ | refine sp_brk ?_ | refine sp_cont ?_ | refine sp_raise ?_ | refine sp_put ?_ | refine sp_retN ?_ | refine sp_par ?_ | refine sp_asgL ?_)
    try dsimp only
    conv => (arg 1; simp [okV_iD, okV_dr, okV_dPt, okV_dP, okV_dG, okV_dC, okV_dB, ix_wd, iD_def, e0])
    refine rp_ok ?_
    try dsimp only
    try simp only [setsE_cons, setsE_nil, List.set_cons_zero, List.set_cons_succ, List.map_cons, List.map_nil, List.length_cons, List.length_nil, List.cons_append, List.nil_append, List.append_nil, List.replicate_succ, List.replicate_zero, Nat.zero_add, Nat.reduceAdd, Nat.reduceSub, wipeE_nil, wipeE_cons, ↓reduceIte, Bool.false_eq_true, Bool.not_true, Bool.not_false]
    (first | refine sp_seq ?_ | refine sp_set ?_ | refine sp_if ?_ | refine sp_ret ?_ | refine sp_expr ?_ | refine sp_asg ?_ | refine sp_next ?_ | refine sp_brk ?_ | refine sp_cont ?_ | refine sp_raise ?_ | refine sp_put ?_ | refine sp_retN ?_ | refine sp_par ?_ | refine sp_asgL ?_)
    try dsimp only
    (first | refine sp_seq ?_ | refine sp_set ?_ | refine sp_if ?_ | refine sp_ret ?_ | refine sp_expr ?_ | refine sp_asg ?_ | refine sp_next ?_ | refine sp_brk ?_ | refine sp_cont ?_ | refine sp_raise ?_ | refine sp_put ?_ | refine sp_retN ?_ | refine sp_par ?_ | refine sp_asgL ?_)
    try dsimp only
    conv => (arg 1; simp [okV_iD, okV_dr, okV_dPt, okV_dP, okV_dG, okV_dC, okV_dB, ix_wd, iD_def, e1'])
    refine rp_ok ?_
    try dsimp only
    try simp only [setsE_cons, setsE_nil, List.set_cons_zero, List.set_cons_succ, List.map_cons, List.map_nil, List.length_cons, List.length_nil, List.cons_append, List.nil_append, List.append_nil, List.replicate_succ, List.replicate_zero, Nat.zero_add, Nat.reduceAdd, Nat.reduceSub, wipeE_nil, wipeE_cons, ↓reduceIte, Bool.false_eq_true, Bool.not_true, Bool.not_false]
    (first | refine sp_seq ?_ | refine sp_set ?_ | refine sp_if ?_ | refine sp_ret ?_ | refine sp_expr ?_ | refine sp_asg ?_ | refine sp_next ?_ | refine sp_brk ?_ | refine sp_cont ?_ | refine sp_raise ?_ | refine sp_put ?_ | refine sp_retN ?_ | refine sp_par ?_ | refine sp_asgL ?_)
    try dsimp only
    (first | refine sp_seq ?_ | refine sp_set ?_ | refine sp_if ?_ | refine sp_ret ?_ | refine sp_expr ?_ | refine sp_asg ?_ | refine sp_next ?_ | refine sp_brk ?_ | refine sp_cont ?_ | refine sp_raise ?_ | refine sp_put ?_ | refine sp_retN ?_ | refine sp_par ?_ | refine sp_asgL ?_)
    try dsimp only
    conv => (arg 1; simp [okV_iD, okV_dr, okV_dPt, okV_dP, okV_dG, okV_dC, okV_dB, ix_wd, iD_def, e2])
    refine rp_ok ?_
    try dsimp only
    try simp only [setsE_cons, setsE_nil, List.set_cons_zero, List.set_cons_succ, List.map_cons, List.map_nil, List.length_cons, List.length_nil, List.cons_append, List.nil_append, List.append_nil, List.replicate_succ, List.replicate_zero, Nat.zero_add, Nat.reduceAdd, Nat.reduceSub, wipeE_nil, wipeE_cons, ↓reduceIte, Bool.false_eq_true, Bool.not_true, Bool.not_false]
    (first | refine sp_seq ?_ | refine sp_set ?_ | refine sp_if ?_ | refine sp_ret ?_ | refine sp_expr ?_ | refine sp_asg ?_ | refine sp_next ?_ | refine sp_brk ?_ | refine sp_cont ?_ | refine sp_raise ?_ | refine sp_put ?_ | refine sp_retN ?_ | refine sp_par ?_ | refine sp_asgL ?_)
    try dsimp only
    refine sp_if (rp_btest ?_)
    conv => (arg 1; simp [okV_iD, okV_dr, okV_dPt, okV_dP, okV_dG, okV_dC, okV_dB, ix_wd, iD_def, e3])
    refine rp_ok ?_
    try dsimp only
    try simp only [setsE_cons, setsE_nil, List.set_cons_zero, List.set_cons_succ, List.map_cons, List.map_nil, List.length_cons, List.length_nil, List.cons_append, List.nil_append, List.append_nil, List.replicate_succ, List.replicate_zero, Nat.zero_add, Nat.reduceAdd, Nat.reduceSub, wipeE_nil, wipeE_cons, ↓reduceIte, Bool.false_eq_true, Bool.not_true, Bool.not_false]
    refine ⟨_, rfl, ?_⟩
    by_cases c : d = 1
    · simp only [c, decide_true, if_true]
      obtain ⟨M', h4, e4, oM', w4⟩ := ev_near oN xN w3.st (by decide)
      (first | refine sp_seq ?_ | refine sp_set ?_ | refine sp_if ?_ | refine sp_ret ?_ | refine sp_expr ?_ | refine sp_asg ?_ | refine sp_next ?_ | refine sp_brk ?_ | refine sp_cont ?_ | refine sp_raise ?_ | refine sp_put ?_ | refine sp_retN ?_ | refine sp_par ?_ | refine sp_asgL ?_)
      try dsimp only
      conv => (arg 1; simp [okV_iD, okV_dr, okV_dPt, okV_dP, okV_dG, okV_dC, okV_dB, ix_wd, iD_def, ok, e4])
      refine rp_ok ?_
      try dsimp only
      try simp only [setsE_cons, setsE_nil, List.set_cons_zero, List.set_cons_succ, List.map_cons, List.map_nil, List.length_cons, List.length_nil, List.cons_append, List.nil_append, List.append_nil, List.replicate_succ, List.replicate_zero, Nat.zero_add, Nat.reduceAdd, Nat.reduceSub, wipeE_nil, wipeE_cons, ↓reduceIte, Bool.false_eq_true, Bool.not_true, Bool.not_false]
      exact rest11 oN oM' w4.st (by decide)
    · simp only [c, decide_false, Bool.false_eq_true, if_false]
      refine sp_next ?_
      exact rest11 oN (ok_up oM) w3.st (by decide)
  obtain ⟨d, h, e, rfl⟩ := rp_to goal
  exact ⟨h, e⟩
end
end Zl
open PySem PySem.W PySem.Calls PyProof.Rows
theorem PySem.Challenge.cw_oddscall_k11_order_of_numbers_holds : PySem.Challenge.rw_oddscall_k11_order_of_numbers.Holds := by
  w_on; o_law
  refine HandSHeadRun.head_imp (r := OpenLaw.row PySem.Challenge.rw_oddscall_k11_order_of_numbers) (q := view (OpenLaw.row PySem.Challenge.rw_oddscall_k11_order_of_numbers).prog [0, 44]) (H := Zl.hk) (ob := Zl.ob) (M := 12000) (loose := Zl.loose) (d := HandSHeadRun.topDef (OpenLaw.row PySem.Challenge.rw_oddscall_k11_order_of_numbers).prog 44) (kwd := []) Zl.ob_eq
    Zl.run (by kernel_rfl) (by kernel_rfl) (by kernel_rfl) (by rfl) (by first | assumption | decide +kernel) (by decide +kernel) ⟨rfl, rfl, rfl, rfl, rfl, by decide +kernel⟩ ?hw ?hc
  case hw => w_witness2
  case hc =>
    refine L2.walk_ofE (l := PySem.Challenge.rw_oddscall_k11_order_of_numbers) (n := 63) (k := 13) (x := "_law_script") (CX := L2.CX0) rfl (by decide) (by kernel_rfl) ⟨rfl, by decide, by decide⟩ ?F (fun _ _ _ _ z => z)
    intro w mg fa h Y G hmg0
    obtain ⟨K, KX, c⟩ := Y
    have hmg : mg ("law" : PySem.Str) = some (.ref fa) := by
      have e : (HandSHeadRun.topDef (OpenLaw.row PySem.Challenge.rw_oddscall_k11_order_of_numbers).prog 44).name = ("law" : PySem.Str) := by kernel_rfl
      rw [← e]
      exact hmg0
    obtain ⟨fd, hb, hF⟩ := Zl.facts (P := (PySem.Challenge.rw_oddscall_k11_order_of_numbers).prog) (w := w) KX G hmg c
    exact ⟨K, fd, (fun vs H Q _ => Z.spF K mg 1 Zl.F_law vs H Q fun _ _ _ => False), KX, hb, fun H a ns hl hO hS => Z.law_sp hO hS (Zl.law_true ns hl), fun base _ _ => Z.quiet (hF base)⟩
#print axioms PySem.Challenge.cw_oddscall_k11_order_of_numbers_holds
