import PyProof.Rows.All
import Wide.All
import OpenK.AllK
import Wide.FinOn
import HandS.Base
import HandS.Call
import HandS.List
import HandS.Comp
import HandS.Ends
import HandS.Dict
import HandS.Iter
import HandS.Text
import HandS.Exc
import HandS.TryOnly
import HandS.ExcOwn
import HandS.Words
import HandS.WordsList
import HandS.WordsDict
import HandS.WordsExc
import HandS.Defaults
import HandS.IsInst
import HandS.Wide
import HandS.Gcd
import HandS.ExcInit
import HandS.ExcField
import HandS.ExcIs
import HandS.CallSlots
import HandS.HeadHook1
import HandS.TupAny
import HandS.TupMul
import HandS.Style
import HandS.Deep
import HandS.Flow
import HandS.Conv
import HandS.RaiseMore
import KE.KExcIs
import HandS.HeadHook2
import HandS.Head0
import HandS.Head1
import HandS.Head2
import HandS.Head3
import HandS.HeadEnd
import HandS.HeadHook3
import KE.KMathG
import Flt.RightSqrt
import HandS.Zip
import HandS.Zip0
import HandS.MakeKwOnly
import HandS.SortInts
import HandS.SortRule
import PySem.Challenge.RW_oddscall_k16_named_and_reached
set_option Elab.async false
set_option linter.all false
set_option maxRecDepth 100000
set_option maxHeartbeats 4000000
/-! Z: a law's defs as plain Lean functions over plain data, tied to the hand layer once for each construct. -/
namespace Z
open PySem PySem.Spec PyProof.Rows L2

/-! ### data -/
inductive D where
  | non | bl (b : Bool) | int (i : Int) | str (x : Str) | tup (xs : List D) | ref (n : Nat) | fz (xs : List D) | xv
/-- objects that change -/
inductive IO where
  | lst (xs : List D)
  | dic (kvs : List (D × D))
  | ins (c : Str) (fs : List (Str × D))
abbrev IH := List IO
abbrev Ev := List (Option D)
/-- an exception: its class's name, its fields -/
structure Exc where
  cls : Str
  fs : List (Str × D)
inductive R (α : Type) where
  | ok (a : α) (h : IH)
  | exc (x : Exc) (h : IH)
  | stuck
/-- a statement's end -/
inductive RS where
  | nx (e : Ev) (h : IH)
  | rt (d : D) (h : IH)
  | bk (e : Ev) (h : IH)
  | ct (e : Ev) (h : IH)
  | exc (x : Exc) (e : Ev) (h : IH)
  | stuck
def R.bindG {α γ : Type} (r : R α) (fe : Exc → IH → γ) (st : γ) (f : α → IH → γ) : γ := match r with
  | .ok a h => f a h
  | .exc x h => fe x h
  | .stuck => st
@[simp] theorem R.bindG_ok {α γ : Type} (a : α) (h : IH) (fe : Exc → IH → γ) (st : γ) (f : α → IH → γ) : (R.ok a h).bindG fe st f = f a h := rfl
@[simp] theorem R.bindG_exc {α γ : Type} (x : Exc) (h : IH) (fe : Exc → IH → γ) (st : γ) (f : α → IH → γ) : (R.exc x h : R α).bindG fe st f = fe x h := rfl
@[simp] theorem R.bindG_stuck {α γ : Type} (fe : Exc → IH → γ) (st : γ) (f : α → IH → γ) : (R.stuck : R α).bindG fe st f = st := rfl
/-- one value, then another -/
abbrev R.bind {α β : Type} (r : R α) (f : α → IH → R β) : R β := r.bindG .exc .stuck f
/-- an expression's value, then a statement -/
abbrev R.thenS {α : Type} (r : R α) (e : Ev) (f : α → IH → RS) : RS := r.bindG (fun x h => .exc x e h) .stuck f
/-! ### how the heap bears the data -/
structure Rho where
  as : List Addr
/-- a list that stands still -/
def SqF (K : PySem.W.Frag) (H : Hp) (a : Addr) (xs : List V) : Prop :=
  (∃ o, H a = some (.frz o (.lst xs))) ∨
    ∃ (o : Obj) (its : Array Value) (n : Nat), K.lookup a = some o ∧ o.cls = .type "list" ∧ o.dict = none ∧ o.data = .seq its n ∧ its.size ≤ sizeLine ∧ Vals xs its.toList
theorem SqF.sq {K : PySem.W.Frag} {H : Hp} {a : Addr} {xs : List V} (h : SqF K H a xs) : SqL K H a xs := h.elim (fun z => .inl (.inr z)) .inr
mutual
inductive RepV (K : PySem.W.Frag) (ρ : Rho) (H : Hp) : D → V → Prop
  | non : RepV K ρ H .non .non
  | bl (b : Bool) : RepV K ρ H (.bl b) (.bl b)
  | int (i : Int) : RepV K ρ H (.int i) (.int i)
  | str (x : Str) : RepV K ρ H (.str x) (.str x)
  | tup {a : Addr} {vs : List V} {ds : List D} : SqT K H a vs → RepL K ρ H ds vs → RepV K ρ H (.tup ds) (.ref a)
  | ref {n : Nat} {a : Addr} : ρ.as[n]? = some a → RepV K ρ H (.ref n) (.ref a)
  | fz {a : Addr} {vs : List V} {ds : List D} : SqF K H a vs → RepL K ρ H ds vs → RepV K ρ H (.fz ds) (.ref a)
inductive RepL (K : PySem.W.Frag) (ρ : Rho) (H : Hp) : List D → List V → Prop
  | nil : RepL K ρ H [] []
  | cons {d : D} {ds : List D} {v : V} {vs : List V} : RepV K ρ H d v → RepL K ρ H ds vs → RepL K ρ H (d :: ds) (v :: vs)
end
/-- fields -/
inductive RepF (K : PySem.W.Frag) (ρ : Rho) (H : Hp) : List (Str × D) → List (Str × V) → Prop
  | nil : RepF K ρ H [] []
  | cons {f : Str} {d : D} {v : V} {ds : List (Str × D)} {vs : List (Str × V)} : RepV K ρ H d v → RepF K ρ H ds vs → RepF K ρ H ((f, d) :: ds) ((f, v) :: vs)
/-- from one state to a later one -/
structure Ext (ρ : Rho) (H : Hp) (ρ' : Rho) (H' : Hp) : Prop where
  pre : ρ.as <+: ρ'.as
  new : ∀ a ∈ ρ'.as, a ∈ ρ.as ∨ H a = none
  keep : ∀ a o, H a = some o → a ∉ ρ.as → H' a = some o
  tups : ∀ a xs, H a = some (.tup xs) → H' a = some (.tup xs)
  frzs : ∀ a o u, H a = some (.frz o u) → H' a = some (.frz o u)
  xds : ∀ a fs, H a = some (.xd fs) → H' a = some (.xd fs)
theorem Ext.refl {ρ : Rho} {H : Hp} : Ext ρ H ρ H := ⟨List.prefix_refl _, fun _ z => .inl z, fun _ _ e _ => e, fun _ _ e => e, fun _ _ _ e => e, fun _ _ e => e⟩
theorem Ext.trans {ρ ρ1 ρ2 : Rho} {H H1 H2 : Hp} (x : Ext ρ H ρ1 H1) (y : Ext ρ1 H1 ρ2 H2) : Ext ρ H ρ2 H2 where
  pre := x.pre.trans y.pre
  new := fun a h => by
    rcases y.new a h with z | z
    · exact x.new a z
    · by_cases ha : a ∈ ρ.as
      · exact .inl ha
      · cases e : H a with
        | none => exact .inr rfl
        | some o =>
          have := x.keep a o e ha
          rw [z] at this; cases this
  keep := fun a o e h => y.keep a o (x.keep a o e h) fun z => (x.new a z).elim h fun q => by rw [e] at q; cases q
  tups := fun a xs e => y.tups a xs (x.tups a xs e)
  frzs := fun a o u e => y.frzs a o u (x.frzs a o u e)
  xds := fun a u e => y.xds a u (x.xds a u e)
section
variable {K : PySem.W.Frag} {ρ ρ' : Rho} {H H' : Hp}
theorem Ext.get (x : Ext ρ H ρ' H') {n : Nat} {a : Addr} (h : ρ.as[n]? = some a) : ρ'.as[n]? = some a := by
  obtain ⟨t, e⟩ := x.pre
  rw [← e, List.getElem?_append_left (List.getElem?_eq_some_iff.mp h).1]
  exact h
theorem Ext.sqT (x : Ext ρ H ρ' H') {a : Addr} {vs : List V} (h : SqT K H a vs) : SqT K H' a vs := by
  rcases h with (h | ⟨o, h⟩) | h
  · exact .inl (.inl (x.tups _ _ h))
  · exact .inl (.inr ⟨o, x.frzs _ _ _ h⟩)
  · exact .inr h
theorem Ext.sqF (x : Ext ρ H ρ' H') {a : Addr} {vs : List V} (h : SqF K H a vs) : SqF K H' a vs := by
  rcases h with ⟨o, h⟩ | h
  · exact .inl ⟨o, x.frzs _ _ _ h⟩
  · exact .inr h
mutual
theorem RepV.ext (x : Ext ρ H ρ' H') : ∀ (d : D) (v : V), RepV K ρ H d v → RepV K ρ' H' d v
  | .non, _, h => by cases h; exact .non
  | .bl _, _, h => by cases h; exact .bl _
  | .int _, _, h => by cases h; exact .int _
  | .str _, _, h => by cases h; exact .str _
  | .tup ds, _, h => by
    cases h with
    | tup h1 h2 => exact .tup (x.sqT h1) (RepL.ext x ds _ h2)
  | .ref n, _, h => by
    cases h with
    | ref h1 => exact .ref (x.get h1)
  | .fz ds, _, h => by
    cases h with
    | fz h1 h2 => exact .fz (x.sqF h1) (RepL.ext x ds _ h2)
  | .xv, _, h => by cases h
theorem RepL.ext (x : Ext ρ H ρ' H') : ∀ (ds : List D) (vs : List V), RepL K ρ H ds vs → RepL K ρ' H' ds vs
  | [], _, h => by cases h; exact .nil
  | d :: ds, _, h => by
    cases h with
    | cons h1 h2 => exact .cons (RepV.ext x d _ h1) (RepL.ext x ds _ h2)
end
theorem RepF.ext (x : Ext ρ H ρ' H') : ∀ {ds : List (Str × D)} {vs : List (Str × V)}, RepF K ρ H ds vs → RepF K ρ' H' ds vs
  | _, _, .nil => .nil
  | _, _, .cons r t => .cons (r.ext x) (RepF.ext x t)
theorem RepF.get {f : Str} {e : D} : ∀ {ds : List (Str × D)} {vs : List (Str × V)}, RepF K ρ H ds vs → ds.lookup f = some e → ∃ v, vs.lookup f = some v ∧ RepV K ρ H e v
  | _, _, .nil, h => by cases h
  | _, _, .cons (f := g) (d := d) (v := v) (ds := ds) (vs := vs) r t, h => by
    rw [List.lookup_cons] at h
    rw [List.lookup_cons]
    cases c : (f == g) with
    | true => rw [c] at h; cases h; exact ⟨v, rfl, r⟩
    | false => rw [c] at h; exact RepF.get t h
theorem RepL.length : ∀ {ds : List D} {vs : List V}, RepL K ρ H ds vs → ds.length = vs.length
  | _, _, .nil => rfl
  | _, _, .cons _ t => congrArg Nat.succ (RepL.length t)
theorem RepL.get : ∀ {ds : List D} {vs : List V} {i : Nat} {d : D}, RepL K ρ H ds vs → ds[i]? = some d → ∃ v, vs[i]? = some v ∧ RepV K ρ H d v
  | _, _, _, _, .nil, e => by simp at e
  | _, _, 0, _, .cons r _, e => by simp at e; subst e; exact ⟨_, rfl, r⟩
  | _, _, i + 1, _, .cons _ t, e => by
    obtain ⟨v, h1, h2⟩ := RepL.get (i := i) t (by simpa using e)
    exact ⟨v, by simpa using h1, h2⟩
theorem RepL.get' : ∀ {ds : List D} {vs : List V} {i : Nat} {v : V}, RepL K ρ H ds vs → vs[i]? = some v → ∃ d, ds[i]? = some d ∧ RepV K ρ H d v
  | _, _, _, _, .nil, e => by simp at e
  | _, _, 0, _, .cons r _, e => by simp at e; subst e; exact ⟨_, rfl, r⟩
  | _, _, i + 1, _, .cons _ t, e => by
    obtain ⟨d, h1, h2⟩ := RepL.get' (i := i) t (by simpa using e)
    exact ⟨d, by simpa using h1, h2⟩
theorem RepL.append : ∀ {ds es : List D} {vs ws : List V}, RepL K ρ H ds vs → RepL K ρ H es ws → RepL K ρ H (ds ++ es) (vs ++ ws)
  | _, _, _, _, .nil, s => s
  | _, _, _, _, .cons r t, s => .cons r (RepL.append t s)
theorem RepL.set {d : D} {v : V} (r : RepV K ρ H d v) : ∀ {ds : List D} {vs : List V} (i : Nat), RepL K ρ H ds vs → RepL K ρ H (ds.set i d) (vs.set i v)
  | _, _, _, .nil => .nil
  | _, _, 0, .cons _ t => .cons r t
  | _, _, i + 1, .cons q t => .cons q (RepL.set r i t)
end
/-- a dict's key -/
def keyD : Key → D
  | .inl i => .int i
  | .inr x => .str x
/-- what a dict holds -/
inductive RepK (K : PySem.W.Frag) (ρ : Rho) (H : Hp) {κ : Type} (f : κ → D) : List (D × D) → List (κ × V) → Prop
  | nil : RepK K ρ H f [] []
  | cons {k : κ} {d : D} {v : V} {ds : List (D × D)} {vs : List (κ × V)} : RepV K ρ H d v → RepK K ρ H f ds vs → RepK K ρ H f ((f k, d) :: ds) ((k, v) :: vs)
theorem RepK.ext {K : PySem.W.Frag} {ρ ρ' : Rho} {H H' : Hp} {κ : Type} {f : κ → D} (x : Ext ρ H ρ' H') : ∀ {ds : List (D × D)} {vs : List (κ × V)}, RepK K ρ H f ds vs → RepK K ρ' H' f ds vs
  | _, _, .nil => .nil
  | _, _, .cons r t => .cons (r.ext x) (RepK.ext x t)
def keyT (ks : List Key) : D := .tup (ks.map keyD)
/-- an object -/
def RepO (K : PySem.W.Frag) (ρ : Rho) (H : Hp) (a : Addr) : IO → Prop
  | .lst xs => ∃ vs, H a = some (.lst vs) ∧ RepL K ρ H xs vs
  | .dic kvs => (∃ m, H a = some (.dK m) ∧ RepK K ρ H keyD kvs m) ∨ ∃ m, H a = some (.dT m) ∧ RepK K ρ H keyT kvs m
  | .ins c fs => ∃ dx vs, H a = some (.ins (He.ga K c) dx vs) ∧ RepF K ρ H fs vs
structure RelH (K : PySem.W.Frag) (ρ : Rho) (ih : IH) (H : Hp) : Prop where
  len : ρ.as.length = ih.length
  nd : ρ.as.Nodup
  obj : ∀ (n : Nat) (a : Addr) (o : IO), ρ.as[n]? = some a → ih[(n : Nat)]? = some o → RepO K ρ H a o
/-- the exception that an except suite holds: where it stands, its class, its own dict, what it says -/
structure XP where
  a : Addr
  cls : Value
  od : Option Addr
  x : Exc
def RepX (K : PySem.W.Frag) (mg : Str → Option Value) (ρ : Rho) (H : Hp) (x : Exc) (cls : Value) (od : Option Addr) : Prop :=
  ∃ (d : Addr) (vs : List (Str × V)), cls = .ref (He.ga K x.cls) ∧ od = some d ∧ H d = some (.xd vs) ∧ RepF K ρ H x.fs vs
theorem RepX.ext {K : PySem.W.Frag} {mg : Str → Option Value} {ρ ρ' : Rho} {H H' : Hp} {x : Exc} {cls : Value} {od : Option Addr} (r : RepX K mg ρ H x cls od) (e : Ext ρ H ρ' H') : RepX K mg ρ' H' x cls od := by
  obtain ⟨d, vs, h2, h3, h4, h5⟩ := r
  exact ⟨d, vs, h2, h3, e.xds _ _ h4, h5.ext e⟩
structure Rel (K : PySem.W.Frag) (xp : Option XP) (ρ : Rho) (env : Ev) (ih : IH) (σ : L2.St) (H : Hp) : Prop where
  hp : RelH K ρ ih H
  len : env.length = σ.length
  var : ∀ (i : Nat) (d : D), env[i]? = some (some d) → d ≠ .xv → ∃ v, σ[i]? = some (some v) ∧ RepV K ρ H d v
  xvar : ∀ (i : Nat), env[i]? = some (some .xv) → ∃ p, xp = some p ∧ σ[i]? = some (some (.ref p.a))
  xok : ∀ p, xp = some p → ∃ mg, RepX K mg ρ H p.x p.cls p.od
section
variable {K : PySem.W.Frag} {xp : Option XP} {ρ ρ' : Rho} {H H' : Hp} {env : Ev} {ih ih' : IH} {σ : L2.St}
theorem RepV.nxv {d : D} {v : V} (r : RepV K ρ H d v) : d ≠ .xv := by rintro rfl; cases r
/-- behind a step that leaves the slots -/
theorem Rel.next (r : Rel K xp ρ env ih σ H) (x : Ext ρ H ρ' H') (h : RelH K ρ' ih' H') : Rel K xp ρ' env ih' σ H' :=
  ⟨h, r.len, fun i d e ne => let ⟨v, e1, e2⟩ := r.var i d e ne; ⟨v, e1, e2.ext x⟩, r.xvar, fun p e => let ⟨mg, q⟩ := r.xok p e; ⟨mg, q.ext x⟩⟩
theorem get_set {α : Type} {l : List α} {i j : Nat} {a b : α} (h : (l.set i a)[j]? = some b) : (i = j ∧ b = a ∧ i < l.length) ∨ (i ≠ j ∧ l[j]? = some b) := by
  by_cases hj : i = j
  · subst hj
    have hi : i < l.length := by
      have := (List.getElem?_eq_some_iff.mp h).1
      simpa using this
    rw [List.getElem?_set_self hi] at h
    cases h
    exact .inl ⟨rfl, rfl, hi⟩
  · rw [List.getElem?_set_ne hj] at h
    exact .inr ⟨hj, h⟩
theorem Rel.set (r : Rel K xp ρ env ih σ H) {d : D} {v : V} (i : Nat) (hv : RepV K ρ H d v) : Rel K xp ρ (env.set i (some d)) ih (σ.set i (some v)) H := by
  refine ⟨r.hp, by simp [r.len], fun j e h ne => ?_, fun j h => ?_, r.xok⟩
  · rcases get_set h with ⟨rfl, e1, hi⟩ | ⟨hj, h⟩
    · cases e1
      exact ⟨v, List.getElem?_set_self (by rw [← r.len]; exact hi), hv⟩
    · rw [List.getElem?_set_ne hj]
      exact r.var j e h ne
  · rcases get_set h with ⟨rfl, e1, hi⟩ | ⟨hj, h⟩
    · cases e1
      exact absurd rfl hv.nxv
    · rw [List.getElem?_set_ne hj]
      exact r.xvar j h
theorem Rel.unset (r : Rel K xp ρ env ih σ H) (i : Nat) {v : Option V} : Rel K xp ρ (env.set i none) ih (σ.set i v) H := by
  refine ⟨r.hp, by simp [r.len], fun j e h ne => ?_, fun j h => ?_, r.xok⟩
  · rcases get_set h with ⟨rfl, e1, hi⟩ | ⟨hj, h⟩
    · cases e1
    · rw [List.getElem?_set_ne hj]
      exact r.var j e h ne
  · rcases get_set h with ⟨rfl, e1, hi⟩ | ⟨hj, h⟩
    · cases e1
    · rw [List.getElem?_set_ne hj]
      exact r.xvar j h
end

/-! ### what is wanted of an end -/
section
variable (K : PySem.W.Frag) (mg : Str → Option Value) (W : WX)
section
variable (ρ : Rho) (σ : L2.St) (H : Hp)
def PostE (Q : VK) : R D → Prop
  | .ok d ih => ∀ ρ' v H', Ext ρ H ρ' H' → RelH K ρ' ih H' → RepV K ρ' H' d v → Q v H'
  | .exc x ih => ∀ ρ' cls od H', Ext ρ H ρ' H' → RelH K ρ' ih H' → RepX K mg ρ' H' x cls od → W cls od σ H'
  | .stuck => False
def PostT (Q : Bool → Hp → Prop) : R Bool → Prop
  | .ok b ih => ∀ ρ' H', Ext ρ H ρ' H' → RelH K ρ' ih H' → Q b H'
  | .exc x ih => ∀ ρ' cls od H', Ext ρ H ρ' H' → RelH K ρ' ih H' → RepX K mg ρ' H' x cls od → W cls od σ H'
  | .stuck => False
def PostA (Q : List V → Hp → Prop) : R (List D) → Prop
  | .ok ds ih => ∀ ρ' vs H', Ext ρ H ρ' H' → RelH K ρ' ih H' → RepL K ρ' H' ds vs → Q vs H'
  | .exc x ih => ∀ ρ' cls od H', Ext ρ H ρ' H' → RelH K ρ' ih H' → RepX K mg ρ' H' x cls od → W cls od σ H'
  | .stuck => False
end
def PostS (xp : Option XP) (ρ : Rho) (H : Hp) (N : Ends) : RS → Prop
  | .nx e ih => ∀ ρ' σ' H', Ext ρ H ρ' H' → Rel K xp ρ' e ih σ' H' → N.nx σ' H'
  | .bk e ih => ∀ ρ' σ' H', Ext ρ H ρ' H' → Rel K xp ρ' e ih σ' H' → N.bk σ' H'
  | .ct e ih => ∀ ρ' σ' H', Ext ρ H ρ' H' → Rel K xp ρ' e ih σ' H' → N.ct σ' H'
  | .rt d ih => ∀ ρ' v H', Ext ρ H ρ' H' → RelH K ρ' ih H' → RepV K ρ' H' d v → N.rt v H'
  | .exc x e ih => ∀ ρ' cls od σ' H', Ext ρ H ρ' H' → Rel K xp ρ' e ih σ' H' → RepX K mg ρ' H' x cls od → W cls od σ' H'
  | .stuck => False
end
section
variable {K : PySem.W.Frag} {mg : Str → Option Value} {W : WX} {xp : Option XP} {ρ ρ' : Rho} {σ : L2.St} {H H' : Hp}
theorem PostE.ext {Q : VK} : ∀ {r : R D}, PostE K mg W ρ σ H Q r → Ext ρ H ρ' H' → PostE K mg W ρ' σ H' Q r
  | .ok _ _, h, x => fun _ v _ y => h _ v _ (x.trans y)
  | .exc _ _, h, x => fun _ _ _ _ y => h _ _ _ _ (x.trans y)
  | .stuck, h, _ => h
theorem PostT.ext {Q : Bool → Hp → Prop} : ∀ {r : R Bool}, PostT K mg W ρ σ H Q r → Ext ρ H ρ' H' → PostT K mg W ρ' σ H' Q r
  | .ok _ _, h, x => fun _ _ y => h _ _ (x.trans y)
  | .exc _ _, h, x => fun _ _ _ _ y => h _ _ _ _ (x.trans y)
  | .stuck, h, _ => h
theorem PostA.ext {Q : List V → Hp → Prop} : ∀ {r : R (List D)}, PostA K mg W ρ σ H Q r → Ext ρ H ρ' H' → PostA K mg W ρ' σ H' Q r
  | .ok _ _, h, x => fun _ v _ y => h _ v _ (x.trans y)
  | .exc _ _, h, x => fun _ _ _ _ y => h _ _ _ _ (x.trans y)
  | .stuck, h, _ => h
theorem PostS.ext {N : Ends} : ∀ {r : RS}, PostS K mg W xp ρ H N r → Ext ρ H ρ' H' → PostS K mg W xp ρ' H' N r
  | .nx _ _, h, x => fun _ _ _ y => h _ _ _ (x.trans y)
  | .bk _ _, h, x => fun _ _ _ y => h _ _ _ (x.trans y)
  | .ct _ _, h, x => fun _ _ _ y => h _ _ _ (x.trans y)
  | .rt _ _, h, x => fun _ v _ y => h _ v _ (x.trans y)
  | .exc _ _ _, h, x => fun _ _ _ _ _ y => h _ _ _ _ _ (x.trans y)
  | .stuck, h, _ => h
end

/-! ### the judgements -/
abbrev ME := Ev → IH → R D
abbrev MT := Ev → IH → R Bool
abbrev MA := Ev → IH → R (List D)
abbrev MS := Ev → IH → RS
def SE (xp : Option XP) (X : Cx) (e : Expr) (m : ME) : Prop := ∀ W : WX, Takes X W → ∃ t, PE X e t ∧
  ∀ ρ env ih σ H Q, Rel X.K xp ρ env ih σ H → PostE X.K X.mg W ρ σ H Q (m env ih) → t σ H Q
def ST (xp : Option XP) (X : Cx) (e : Expr) (m : MT) : Prop := ∀ W : WX, Takes X W → ∃ t, PT X e t ∧
  ∀ ρ env ih σ H Q, Rel X.K xp ρ env ih σ H → PostT X.K X.mg W ρ σ H Q (m env ih) → t σ H Q
/-- a test whatever its whole is -/
def SW (xp : Option XP) (X : Cx) (e : Expr) (m : MT) : Prop := ∀ W : WX, Takes X W → ∃ t, PW X e t ∧
  ∀ ρ env ih σ H Q, Rel X.K xp ρ env ih σ H → PostT X.K X.mg W ρ σ H Q (m env ih) → t σ H Q
def SA (xp : Option XP) (X : Cx) (es : List Expr) (m : MA) : Prop := ∀ W : WX, Takes X W → ∃ t, PA X es t ∧
  ∀ ρ env ih σ H Q, Rel X.K xp ρ env ih σ H → PostA X.K X.mg W ρ σ H Q (m env ih) → t σ H Q
def SS (xp : Option XP) (X : Cx) (st : Stmt) (m : MS) : Prop := ∀ W : WX, Takes X W → ∃ t, PS X st t ∧
  ∀ ρ env ih σ H N, Rel X.K xp ρ env ih σ H → PostS X.K X.mg W xp ρ H N (m env ih) → t N σ H
def SSs (xp : Option XP) (X : Cx) (st : List Stmt) (m : MS) : Prop := ∀ W : WX, Takes X W → ∃ t, PSs X st t ∧
  ∀ ρ env ih σ H N, Rel X.K xp ρ env ih σ H → PostS X.K X.mg W xp ρ H N (m env ih) → t N σ H
end Z
/-! Z2: the heap's moves; operators, names, constants, calls. -/
namespace Z
open PySem PySem.Spec PyProof.Rows L2

/-! ### the heap's moves -/
section
variable {K : PySem.W.Frag} {ρ : Rho} {H : Hp} {ih : IH}
/-- an object that is no list and no tuple of ours is laid -/
theorem Ext.fresh {p : Addr} {o : HO} (hp : H p = none) : Ext ρ H ρ (upd H p o) :=
  ⟨List.prefix_refl _, fun _ z => .inl z, fun a u e _ => by rw [upd_ne (ne_of_none e hp)]; exact e, fun a u e => by rw [upd_ne (ne_of_none e hp)]; exact e,
    fun a u v e => by rw [upd_ne (ne_of_none e hp)]; exact e, fun a u e => by rw [upd_ne (ne_of_none e hp)]; exact e⟩
theorem RepO.ext {ρ' : Rho} {H' : Hp} (x : Ext ρ H ρ' H') {a : Addr} (ha : H' a = H a) : ∀ {o : IO}, RepO K ρ H a o → RepO K ρ' H' a o
  | .lst xs, ⟨vs, e, r⟩ => ⟨vs, ha.trans e, r.ext x⟩
  | .dic _, h => h.elim (fun ⟨m, e, r⟩ => .inl ⟨m, ha.trans e, r.ext x⟩) fun ⟨m, e, r⟩ => .inr ⟨m, ha.trans e, r.ext x⟩
  | .ins _ _, ⟨dx, vs, e, r⟩ => ⟨dx, vs, ha.trans e, r.ext x⟩
theorem RelH.ne_none (r : RelH K ρ ih H) {a : Addr} (ha : a ∈ ρ.as) : ∃ o, H a = some o := by
  obtain ⟨n, hn, e⟩ := List.getElem_of_mem ha
  have h1 : ρ.as[n]? = some a := by rw [List.getElem?_eq_getElem hn, e]
  have hi : n < ih.length := by rw [← r.len]; exact hn
  have h2 := r.obj n a ih[n] h1 (List.getElem?_eq_getElem hi)
  cases q : ih[n] with
  | lst xs => rw [q] at h2; obtain ⟨vs, e, _⟩ := h2; exact ⟨_, e⟩
  | dic kvs =>
    rw [q] at h2
    rcases h2 with ⟨_, e, _⟩ | ⟨_, e, _⟩
    · exact ⟨_, e⟩
    · exact ⟨_, e⟩
  | ins c fs => rw [q] at h2; obtain ⟨_, _, e, _⟩ := h2; exact ⟨_, e⟩
/-- what stands aside may be written -/
theorem RelH.aside (r : RelH K ρ ih H) {p : Addr} {o : HO} (hp : H p = none) : RelH K ρ ih (upd H p o) := by
  refine ⟨r.len, r.nd, fun n a u e1 e2 => ?_⟩
  have h := r.obj n a u e1 e2
  have ne : a ≠ p := by
    obtain ⟨z, q⟩ := r.ne_none (List.mem_of_getElem? e1)
    exact ne_of_none q hp
  exact h.ext (Ext.fresh hp) (upd_ne ne)
theorem alloc (r : RelH K ρ ih H) {p : Addr} {vs : List V} {ds : List D} (hp : H p = none) (h : RepL K ρ H ds vs) :
    ∃ ρ', Ext ρ H ρ' (upd H p (.lst vs)) ∧ RelH K ρ' (ih ++ [.lst ds]) (upd H p (.lst vs)) ∧ RepV K ρ' (upd H p (.lst vs)) (.ref ih.length) (.ref p) := by
  have x : Ext ρ H ⟨ρ.as ++ [p]⟩ (upd H p (.lst vs)) :=
    ⟨List.prefix_append _ _, fun a z => by
      rcases List.mem_append.mp z with z | z
      · exact .inl z
      · rw [List.mem_singleton.mp z]; exact .inr hp, fun a u e _ => by rw [upd_ne (ne_of_none e hp)]; exact e, fun a u e => by rw [upd_ne (ne_of_none e hp)]; exact e,
    fun a u v e => by rw [upd_ne (ne_of_none e hp)]; exact e, fun a u e => by rw [upd_ne (ne_of_none e hp)]; exact e⟩
  have np : p ∉ ρ.as := fun z => by
    obtain ⟨o, e⟩ := r.ne_none z
    rw [hp] at e; cases e
  refine ⟨⟨ρ.as ++ [p]⟩, x, ⟨by simp [r.len], List.nodup_append.mpr ⟨r.nd, by simp, fun a ha b hb => by
    rw [List.mem_singleton.mp hb]; rintro rfl; exact np ha⟩, fun n a u e1 e2 => ?_⟩, .ref ?_⟩
  · by_cases hn : n < ih.length
    · have hn' : n < ρ.as.length := by rw [r.len]; exact hn
      rw [List.getElem?_append_left hn'] at e1
      rw [List.getElem?_append_left hn] at e2
      have ne : a ≠ p := by rintro rfl; exact np (List.mem_of_getElem? e1)
      exact (r.obj n a u e1 e2).ext x (upd_ne ne)
    · have hl : n < (ih ++ [IO.lst ds]).length := (List.getElem?_eq_some_iff.mp e2).1
      have en : n = ih.length := by simp at hl; omega
      subst en
      have q1 : (ρ.as ++ [p])[ih.length]? = some p := by rw [← r.len]; simp
      have e1' : (ρ.as ++ [p])[ih.length]? = some a := e1
      rw [q1] at e1'; cases e1'
      have q2 : (ih ++ [IO.lst ds])[ih.length]? = some (.lst ds) := by simp
      rw [q2] at e2; cases e2
      exact ⟨vs, upd_same, h.ext x⟩
  · show (ρ.as ++ [p])[ih.length]? = some p
    rw [← r.len]; simp
theorem rewrite (r : RelH K ρ ih H) {n : Nat} {a : Addr} {vs us : List V} {ds : List D} (ha : ρ.as[n]? = some a) (hl : H a = some (.lst us)) (h : RepL K ρ H ds vs) :
    Ext ρ H ρ (upd H a (.lst vs)) ∧ RelH K ρ (ih.set n (.lst ds)) (upd H a (.lst vs)) := by
  have hm : a ∈ ρ.as := List.mem_of_getElem? ha
  have x : Ext ρ H ρ (upd H a (.lst vs)) :=
    ⟨List.prefix_refl _, fun _ z => .inl z, fun b u e hb => by rw [upd_ne (by rintro rfl; exact hb hm)]; exact e, fun b u e => by rw [upd_ne (by rintro rfl; rw [hl] at e; cases e)]; exact e,
      fun b u v e => by rw [upd_ne (by rintro rfl; rw [hl] at e; cases e)]; exact e, fun b u e => by rw [upd_ne (by rintro rfl; rw [hl] at e; cases e)]; exact e⟩
  refine ⟨x, by rw [r.len, List.length_set], r.nd, fun m b u e1 e2 => ?_⟩
  by_cases hmn : n = m
  · subst hmn
    rw [ha] at e1; cases e1
    have hn : n < ih.length := by rw [← r.len]; exact (List.getElem?_eq_some_iff.mp ha).1
    rw [List.getElem?_set_self hn] at e2
    cases e2
    exact ⟨vs, upd_same, h.ext x⟩
  · rw [List.getElem?_set_ne hmn] at e2
    have ne : b ≠ a := by
      rintro rfl
      obtain ⟨h1, q1⟩ := List.getElem?_eq_some_iff.mp e1
      obtain ⟨h2, q2⟩ := List.getElem?_eq_some_iff.mp ha
      exact hmn ((List.getElem_inj r.nd).mp (q2.trans q1.symm))
    exact (r.obj m b u e1 e2).ext x (upd_ne ne)
/-- a list of ours -/
theorem RelH.lst (r : RelH K ρ ih H) {n : Nat} {a : Addr} {ds : List D} (ha : ρ.as[n]? = some a) (hn : ih[n]? = some (.lst ds)) : ∃ vs, H a = some (.lst vs) ∧ RepL K ρ H ds vs := r.obj n a _ ha hn
end

/-! ### readings joined -/
def tOr (t u : TE) : TE := fun σ H Q => t σ H Q ∨ u σ H Q
theorem pe_or {xp : Option XP} {X : Cx} {e : Expr} {t u : TE} (h : PE X e t) (g : PE X e u) : PE X e (tOr t u) := ⟨fun pins s σ H Q I q => q.elim (h.run pins s σ H Q I) (g.run pins s σ H Q I)⟩

/-! ### names, constants -/
section
variable {xp : Option XP} {X : Cx}
def varM (i : Nat) : ME := fun env h => match env[i]? with
  | some (some .xv) => .stuck
  | some (some d) => .ok d h
  | _ => .stuck
theorem s_var {i : Nat} {x : Str} {pos : Pos} (h : PE X (.Name x pos) (tVar i)) : SE xp X (.Name x pos) (varM i) := fun W tk => ⟨_, h, fun ρ env ih σ H Q r post => by
  unfold varM at post
  split at post
  · exact post.elim
  · rename_i d ne e
    obtain ⟨v, e1, e2⟩ := r.var i d e ne
    exact ⟨v, e1, post ρ v H .refl r.hp e2⟩
  · exact post.elim⟩
def constM (d : D) : ME := fun _ h => .ok d h
theorem s_const {e : Expr} {d : D} {v : V} (h : PE X e (tC v)) (r : ∀ ρ H, RepV X.K ρ H d v) : SE xp X e (constM d) := fun W tk => ⟨_, h, fun ρ env ih σ H Q rl post => post ρ v H .refl rl.hp (r ρ H)⟩
theorem s_int {i : Int} {j : Nat} {pos : Pos} : SE xp X (.Constant (.int i) j pos) (constM (.int i)) := s_const pe_int fun _ _ => .int _
theorem s_bl {b : Bool} {j : Nat} {pos : Pos} : SE xp X (.Constant (.bool b) j pos) (constM (.bl b)) := s_const pe_bl fun _ _ => .bl _
theorem s_non {j : Nat} {pos : Pos} : SE xp X (.Constant .none j pos) (constM .non) := s_const pe_non fun _ _ => .non
theorem s_str {x : Str} {j : Nat} {pos : Pos} : SE xp X (.Constant (.str x) j pos) (constM (.str x)) := s_const pe_str fun _ _ => .str _

/-! ### operators -/
abbrev MO := D → D → IH → R D
/-- an operation keeps: f with the meaning m -/
def SO (X : Cx) (f : Value → Value → Sem Value) (m : MO) : Prop := ∃ r : R2, OpR X f r ∧
  ∀ W ρ ih H σ Q d e x y, RelH X.K ρ ih H → RepV X.K ρ H d x → RepV X.K ρ H e y → PostE X.K X.mg W ρ σ H Q (m d e ih) → r x y H Q
def binM (o : MO) (ma mb : ME) : ME := fun env h => (ma env h).bind fun x h1 => (mb env h1).bind fun y h2 => o x y h2
variable {a b : Expr} {ma mb : ME} {pos : Pos}
end
end Z
/-! Z3: operators by data. -/
namespace Z
open PySem PySem.Spec PyProof.Rows L2
section
variable {xp : Option XP} {X : Cx}
/-! ### equality of data -/
def pdL (f : D → Option PyData) : List D → Option (List PyData)
  | [] => some []
  | d :: ds => match f d, pdL f ds with
    | some p, some ps => some (p :: ps)
    | _, _ => none
def pd : Nat → IH → D → Option PyData
  | 0, _, _ => none
  | k + 1, h, d => match d with
    | .non => some .none
    | .bl b => some (.bool b)
    | .int i => some (.int i)
    | .str x => some (.str x)
    | .tup ds => (pdL (pd k h) ds).map .tuple
    | .fz ds => (pdL (pd k h) ds).map .list
    | .ref n => match h[n]? with
      | some (.lst ds) => (pdL (pd k h) ds).map .list
      | _ => none
    | .xv => none
theorem pdL_all {K : PySem.W.Frag} {ρ : Rho} {H : Hp} {f : D → Option PyData} (hf : ∀ d p v, f d = some p → RepV K ρ H d v → Dp K H v p) :
    ∀ {ds : List D} {ps : List PyData} {vs : List V}, pdL f ds = some ps → RepL K ρ H ds vs → DpAll K H vs ps
  | [], _, _, e, .nil => by cases e; exact .nil
  | d :: ds, _, _, e, .cons r t => by
    unfold pdL at e
    split at e
    · rename_i p ps e1 e2
      cases e
      exact .cons (hf _ _ _ e1 r) (pdL_all hf e2 t)
    · cases e
theorem pd_dp {K : PySem.W.Frag} {ρ : Rho} {H : Hp} {ih : IH} (rl : RelH K ρ ih H) : ∀ {k : Nat} {d : D} {p : PyData} {v : V}, pd k ih d = some p → RepV K ρ H d v → Dp K H v p
  | 0, _, _, _, e, _ => by cases e
  | k + 1, d, p, v, e, r => by
    have ihd : ∀ d p v, pd k ih d = some p → RepV K ρ H d v → Dp K H v p := fun d p v => pd_dp rl
    cases r with
    | non => cases e; exact .non
    | bl b => cases e; exact .bl b
    | int i => cases e; exact .int i
    | str x => cases e; exact .str x
    | @tup a vs ds h1 h2 =>
      obtain ⟨ps, e1, e2⟩ := Option.map_eq_some_iff.mp (show (pdL (pd k ih) ds).map PyData.tuple = some p from e)
      cases e2
      exact .tup h1 (pdL_all ihd e1 h2)
    | @fz a vs ds h1 h2 =>
      obtain ⟨ps, e1, e2⟩ := Option.map_eq_some_iff.mp (show (pdL (pd k ih) ds).map PyData.list = some p from e)
      cases e2
      exact .lst h1.sq (pdL_all ihd e1 h2)
    | @ref n a h1 =>
      have e' : (match ih[n]? with
        | some (.lst ds) => (pdL (pd k ih) ds).map PyData.list
        | _ => none) = some p := e
      split at e'
      · rename_i ds hn
        obtain ⟨ps, e1, e2⟩ := Option.map_eq_some_iff.mp e'
        cases e2
        obtain ⟨vs, hv, hr⟩ := rl.lst h1 hn
        exact .lst (SqL.of hv) (pdL_all ihd e1 hr)
      · cases e'
/-- depth of data that is compared -/
def pdK : Nat := 16
def eqB (h : IH) (d e : D) : Option Bool := match pd pdK h d, pd pdK h e with
  | some p, some q => if SeqAt.shaped p = true ∧ SeqAt.shaped q = true then some (PyData.eqv p q) else none
  | _, _ => none
def eqM : MO := fun d e h => match eqB h d e with
  | some b => .ok (.bl b) h
  | none => .stuck
def neM : MO := fun d e h => match eqB h d e with
  | some b => .ok (.bl (!b)) h
  | none => .stuck
theorem eqB_of {K : PySem.W.Frag} {ρ : Rho} {H : Hp} {ih : IH} (rl : RelH K ρ ih H) {d e : D} {x y : V} {b : Bool} (q : eqB ih d e = some b) (hd : RepV K ρ H d x) (he : RepV K ρ H e y) :
    ∃ p q, Dp K H x p ∧ Dp K H y q ∧ SeqAt.shaped p = true ∧ SeqAt.shaped q = true ∧ PyData.eqv p q = b := by
  unfold eqB at q
  split at q
  · rename_i p q' e1 e2
    split at q
    · rename_i c
      cases q
      exact ⟨p, q', pd_dp rl e1 hd, pd_dp rl e2 he, c.1, c.2, rfl⟩
    · cases q
  · cases q
theorem o_eq (hu : X.A.units + 64 < cLine) : SO X (compareOp .Eq) eqM := ⟨_, op_eqD hu, fun W ρ ih H σ Q d e x y rl hd he post => by
  unfold eqM at post
  split at post
  · rename_i b q
    obtain ⟨p, q', h1, h2, h3, h4, h5⟩ := eqB_of rl q hd he
    subst h5
    exact ⟨p, q', h1, h2, h3, h4, post ρ _ H .refl rl (.bl _)⟩
  · exact post.elim⟩
theorem o_ne (hu : X.A.units + 64 < cLine) : SO X (compareOp .NotEq) neM := ⟨_, op_neD hu, fun W ρ ih H σ Q d e x y rl hd he post => by
  unfold neM at post
  split at post
  · rename_i b q
    obtain ⟨p, q', h1, h2, h3, h4, h5⟩ := eqB_of rl q hd he
    subst h5
    exact ⟨p, q', h1, h2, h3, h4, post ρ _ H .refl rl (.bl _)⟩
  · exact post.elim⟩

/-! ### ints -/
def small (i j : Int) : Prop := i.natAbs.log2 + j.natAbs.log2 < 1000000
instance (i j : Int) : Decidable (small i j) := by unfold small; infer_instance
/-- an operation on two ints, of an int -/
def intM (C : Int → Int → Prop) [∀ i j, Decidable (C i j)] (g : Int → Int → Int) : MO := fun d e h => match d, e with
  | .int i, .int j => if C i j then .ok (.int (g i j)) h else .stuck
  | _, _ => .stuck
def cmpM (g : Int → Int → Bool) : MO := fun d e h => match d, e with
  | .int i, .int j => .ok (.bl (g i j)) h
  | _, _ => .stuck
theorem o_int {f : Value → Value → Sem Value} {C : Int → Int → Prop} [∀ i j, Decidable (C i j)] {g : Int → Int → Int} (o : OpR X f (rI C fun i j => .int (g i j))) : SO X f (intM C g) := ⟨_, o, fun W ρ ih H σ Q d e x y rl hd he post => by
  unfold intM at post
  split at post
  · cases hd
    cases he
    split at post
    · rename_i c
      exact ⟨_, _, rfl, rfl, c, post ρ _ H .refl rl (.int _)⟩
    · exact post.elim
  · exact post.elim⟩
theorem o_cmp {f : Value → Value → Sem Value} {g : Int → Int → Bool} (o : OpR X f (rI0 fun i j => .bl (g i j))) : SO X f (cmpM g) := ⟨_, o, fun W ρ ih H σ Q d e x y rl hd he post => by
  unfold cmpM at post
  split at post
  · cases hd
    cases he
    exact ⟨_, _, rfl, rfl, post ρ _ H .refl rl (.bl _)⟩
  · exact post.elim⟩
def ltM : MO := cmpM fun i j => decide (i < j)
def leM : MO := cmpM fun i j => decide (i ≤ j)
def gtM : MO := cmpM fun i j => decide (j < i)
def geM : MO := cmpM fun i j => decide (j ≤ i)
theorem o_lt : SO X (compareOp .Lt) ltM := o_cmp op_lt
theorem o_le : SO X (compareOp .LtE) leM := o_cmp op_le
theorem o_gt : SO X (compareOp .Gt) gtM := o_cmp op_gt
theorem o_ge : SO X (compareOp .GtE) geM := o_cmp op_ge
theorem op_sub' : OpR X (binaryOp .Sub) (rI (fun _ _ => True) fun i j => .int (i - j)) := opI fun _ _ _ _ _ _ _ _ q => sub_int q
theorem op_fdivZ : OpR X (binaryOp .FloorDiv) (rI (fun _ j => j ≠ 0 ∧ j.natAbs.log2 < 9000) fun i j => .int (i.fdiv j)) := opI fun _ _ _ _ _ _ _ hc q => floordiv_int hc.1 q (.inl (PyProof.noPylong_of_log2 hc.2))
def subM : MO := intM (fun _ _ => True) fun i j => i - j
def fdivM : MO := intM (fun _ j => j ≠ 0 ∧ j.natAbs.log2 < 9000) fun i j => i.fdiv j
def modM : MO := intM (fun _ j => j ≠ 0) fun i j => i.fmod j
def powM : MO := intM (fun i j => 0 ≤ j ∧ j ≤ 1000000 ∧ i.natAbs < 2 ^ 64) fun i j => i ^ j.toNat
theorem o_sub : SO X (binaryOp .Sub) subM := o_int op_sub'
theorem o_fdiv : SO X (binaryOp .FloorDiv) fdivM := o_int op_fdivZ
theorem o_mod : SO X (binaryOp .Mod) modM := o_int op_modN
theorem o_pow : SO X (binaryOp .Pow) powM := o_int op_pow

/-! ### + and * -/
def newL (h : IH) (ds : List D) : R D := .ok (.ref h.length) (h ++ [.lst ds])
def addM : MO := fun d e h => match d, e with
  | .int i, .int j => .ok (.int (i + j)) h
  | .str x, .str y => if x.length + y.length ≤ sizeLine then .ok (.str (x ++ y)) h else .stuck
  | .tup xs, .tup ys => if xs.length + ys.length ≤ sizeLine then .ok (.tup (xs ++ ys)) h else .stuck
  | .ref n, .ref m => match h[n]?, h[m]? with
    | some (.lst xs), some (.lst ys) => if xs.length + ys.length ≤ sizeLine then newL h (xs ++ ys) else .stuck
    | _, _ => .stuck
  | _, _ => .stuck
theorem RepL.nil_iff {K : PySem.W.Frag} {ρ : Rho} {H : Hp} {ds : List D} {vs : List V} (r : RepL K ρ H ds vs) : vs = [] ↔ ds = [] := by
  cases r <;> simp
theorem o_add : SO X (binaryOp .Add) addM := ⟨_, op_add.or (op_add_str.or (op_catA.or op_cat)), fun W ρ ih H σ Q d e x y rl hd he post => by
  unfold addM at post
  split at post
  · cases hd
    cases he
    exact .inl ⟨_, _, rfl, rfl, post ρ _ H .refl rl (.int _)⟩
  · cases hd
    cases he
    split at post
    · rename_i c
      exact .inr (.inl ⟨_, _, rfl, rfl, c, post ρ _ H .refl rl (.str _)⟩)
    · exact post.elim
  · rename_i xs ys
    cases hd with
    | @tup a vs _ h1 h2 =>
      cases he with
      | @tup b us _ g1 g2 =>
        split at post
        · rename_i c
          refine .inr (.inr (.inl ⟨a, b, vs, us, rfl, rfl, h1, g1, by rw [← h2.length, ← g2.length]; exact c, fun ev => ?_, fun _ eu => ?_, fun _ _ p hp => ?_⟩))
          · have := h2.nil_iff.mp ev
            subst this
            exact post ρ _ H .refl rl (.tup g1 (by simpa using g2))
          · have := g2.nil_iff.mp eu
            subst this
            exact post ρ _ H .refl rl (.tup h1 (by simpa using h2))
          · exact post ρ _ _ (Ext.fresh hp) (rl.aside hp) (.tup (SqT.of upd_same) ((h2.append g2).ext (Ext.fresh hp)))
        · exact post.elim
  · split at post
    · rename_i n m xs ys hn hm
      split at post
      · rename_i c
        cases hd with
        | @ref _ a ha =>
          cases he with
          | @ref _ b hb =>
            obtain ⟨vs, e1, r1⟩ := rl.lst ha hn
            obtain ⟨us, e2, r2⟩ := rl.lst hb hm
            refine .inr (.inr (.inr ⟨a, b, vs, us, rfl, rfl, e1, e2, by rw [← r1.length, ← r2.length]; exact c, fun p hp => ?_⟩))
            obtain ⟨ρ', x', rl', rv⟩ := alloc rl hp (r1.append r2)
            exact post ρ' _ _ x' rl' rv
      · exact post.elim
    · exact post.elim
  · exact post.elim⟩
def mulM : MO := fun d e h => match d, e with
  | .int i, .int j => if small i j then .ok (.int (i * j)) h else .stuck
  | .ref n, .int k => match h[n]? with
    | some (.lst xs) => if -(2 ^ 63) ≤ k ∧ k < 2 ^ 63 ∧ xs.length * k.toNat ≤ sizeLine then newL h (List.replicate k.toNat xs).flatten else .stuck
    | _ => .stuck
  | .tup xs, .int k => if xs.isEmpty = false ∧ 2 ≤ k ∧ k ≤ 1000 ∧ xs.length ≤ 1000 then .ok (.tup (List.replicate k.toNat xs).flatten) h else .stuck
  | _, _ => .stuck
theorem RepL.rep {K : PySem.W.Frag} {ρ : Rho} {H : Hp} {ds : List D} {vs : List V} (r : RepL K ρ H ds vs) : ∀ n : Nat, RepL K ρ H (List.replicate n ds).flatten (List.replicate n vs).flatten
  | 0 => .nil
  | n + 1 => by
    rw [List.replicate_succ, List.replicate_succ, List.flatten_cons, List.flatten_cons]
    exact r.append (RepL.rep r n)
theorem o_mul : SO X (binaryOp .Mult) mulM := ⟨_, op_mulW.or (op_rep.or op_repT), fun W ρ ih H σ Q d e x y rl hd he post => by
  unfold mulM at post
  split at post
  · cases hd
    cases he
    split at post
    · rename_i c
      exact .inl ⟨_, _, rfl, rfl, c, post ρ _ H .refl rl (.int _)⟩
    · exact post.elim
  · split at post
    · rename_i n k _ xs hn
      split at post
      · rename_i c
        cases hd with
        | @ref _ a ha =>
          cases he
          obtain ⟨vs, e1, r1⟩ := rl.lst ha hn
          refine .inr (.inl ⟨a, k, vs, rfl, rfl, e1, c.1, c.2.1, by rw [← r1.length]; exact c.2.2, fun p hp => ?_⟩)
          obtain ⟨ρ', x', rl', rv⟩ := alloc rl hp (r1.rep k.toNat)
          exact post ρ' _ _ x' rl' rv
      · exact post.elim
    · exact post.elim
  · split at post
    · rename_i xs k c
      cases hd with
      | @tup b vs xs q1 q2 =>
        cases he
        refine .inr (.inr ⟨b, k, vs, rfl, rfl, q1, ?_, c.2.1, c.2.2.1, by rw [← q2.length]; exact c.2.2.2, fun p hp => ?_⟩)
        · rintro rfl
          have := q2.length
          have c1 := c.1
          cases xs with
          | nil => cases c1
          | cons _ _ => cases this
        · exact post ρ _ _ (Ext.fresh hp) (rl.aside hp) (.tup (SqT.of upd_same) ((q2.rep k.toNat).ext (Ext.fresh hp)))
    · exact post.elim
  · exact post.elim⟩

/-! ### is -/
def isM (neg : Bool) : MO := fun d e h => match d, e with
  | .bl a, .bl b => .ok (.bl (xor neg (a == b))) h
  | .non, .non => .ok (.bl (!neg)) h
  | .int _, .non | .bl _, .non | .str _, .non | .tup _, .non | .ref _, .non | .fz _, .non => .ok (.bl neg) h
  | _, _ => .stuck
theorem RepV.non_iff {K : PySem.W.Frag} {ρ : Rho} {H : Hp} {d : D} {v : V} (r : RepV K ρ H d v) : (v = .non) ↔ d = .non := by
  cases r <;> simp
theorem o_is : SO X (compareOp .Is) (isM false) := ⟨_, op_isBl.or op_isN, fun W ρ ih H σ Q d e x y rl hd he post => by
  unfold isM at post
  split at post
  · rename_i a b
    cases hd
    cases he
    refine .inl ⟨_, _, rfl, rfl, ?_⟩
    have e : decide (a = b) = xor false (a == b) := by cases a <;> cases b <;> rfl
    rw [e]
    exact post ρ _ H .refl rl (.bl _)
  · cases hd
    cases he
    exact .inr ⟨rfl, post ρ _ H .refl rl (.bl _)⟩
  all_goals first
    | exact post.elim
    | (cases he
       refine .inr ⟨rfl, ?_⟩
       have z : decide (x = V.non) = false := decide_eq_false fun z => by
         have := hd.non_iff.mp z
         cases this
       rw [z]
       exact post ρ _ H .refl rl (.bl _))⟩
theorem o_isnot : SO X (compareOp .IsNot) (isM true) := ⟨_, op_notBl.or op_notN, fun W ρ ih H σ Q d e x y rl hd he post => by
  unfold isM at post
  split at post
  · rename_i a b
    cases hd
    cases he
    refine .inl ⟨_, _, rfl, rfl, ?_⟩
    have e : (!decide (a = b)) = xor true (a == b) := by cases a <;> cases b <;> rfl
    rw [e]
    exact post ρ _ H .refl rl (.bl _)
  · cases hd
    cases he
    exact .inr ⟨rfl, post ρ _ H .refl rl (.bl _)⟩
  all_goals first
    | exact post.elim
    | (cases he
       refine .inr ⟨rfl, ?_⟩
       have z : decide (x = V.non) = false := decide_eq_false fun z => by
         have := hd.non_iff.mp z
         cases this
       rw [z]
       exact post ρ _ H .refl rl (.bl _))⟩
end
end Z
/-! Z4: one thing behind another; displays, tests, and, or, not, if. -/
namespace Z
open PySem PySem.Spec PyProof.Rows L2
/-- a wish of ends, closed under what may happen ahead -/
structure Lk {γ : Type} (K : PySem.W.Frag) (mg : Str → Option Value) (W : WX) (σ : L2.St) (ρ : Rho) (H : Hp) (P : Rho → Hp → γ → Prop) (fe : Exc → IH → γ) (st : γ) : Prop where
  ext : ∀ ρ1 H1 ρ' H' r, P ρ1 H1 r → Ext ρ1 H1 ρ' H' → P ρ' H' r
  exc : ∀ x h, P ρ H (fe x h) → ∀ ρ' cls od H', Ext ρ H ρ' H' → RelH K ρ' h H' → RepX K mg ρ' H' x cls od → W cls od σ H'
  stuck : ¬ P ρ H st
section
variable {K : PySem.W.Frag} {mg : Str → Option Value} {W : WX} {σ : L2.St} {ρ : Rho} {H : Hp}
theorem lkE {Q : VK} : Lk K mg W σ ρ H (fun ρ H r => PostE K mg W ρ σ H Q r) .exc .stuck := ⟨fun _ _ _ _ _ h x => h.ext x, fun _ _ h => h, fun h => h⟩
theorem lkT {Q : Bool → Hp → Prop} : Lk K mg W σ ρ H (fun ρ H r => PostT K mg W ρ σ H Q r) .exc .stuck := ⟨fun _ _ _ _ _ h x => h.ext x, fun _ _ h => h, fun h => h⟩
theorem lkA {Q : List V → Hp → Prop} : Lk K mg W σ ρ H (fun ρ H r => PostA K mg W ρ σ H Q r) .exc .stuck := ⟨fun _ _ _ _ _ h x => h.ext x, fun _ _ h => h, fun h => h⟩
theorem lkS {env : Ev} {ih : IH} {N : Ends} (rl : Rel K xp ρ env ih σ H) : Lk K mg W σ ρ H (fun ρ H r => PostS K mg W xp ρ H N r) (fun x h => .exc x env h) .stuck :=
  ⟨fun _ _ _ _ _ h x => h.ext x, fun _ _ h ρ' cls od H' x r q => h ρ' cls od σ H' x (rl.next x r) q, fun h => h⟩
theorem Lk.mono {γ : Type} {P : Rho → Hp → γ → Prop} {fe : Exc → IH → γ} {st : γ} (l : ∀ ρ H, Lk K mg W σ ρ H P fe st) : ∀ ρ H, Lk K mg W σ ρ H P fe st := l
end
section
variable {xp : Option XP} {X : Cx} {W : WX} {γ : Type} {P : Rho → Hp → γ → Prop} {fe : Exc → IH → γ} {st : γ} {ρ : Rho} {env : Ev} {ih : IH} {σ : L2.St} {H : Hp}
theorem fstE {ta : TE} {ma : ME} {f : D → IH → γ} {S : VK} (ha : ∀ ρ env ih σ H Q, Rel X.K xp ρ env ih σ H → PostE X.K X.mg W ρ σ H Q (ma env ih) → ta σ H Q) (rl : Rel X.K xp ρ env ih σ H)
    (l : Lk X.K X.mg W σ ρ H P fe st) (post : P ρ H ((ma env ih).bindG fe st f))
    (k : ∀ ρ1 d h1 v H1, Ext ρ H ρ1 H1 → RelH X.K ρ1 h1 H1 → RepV X.K ρ1 H1 d v → P ρ1 H1 (f d h1) → S v H1) : ta σ H S := by
  refine ha _ _ _ _ _ _ rl ?_
  revert post
  cases ma env ih with
  | ok x h1 => exact fun post ρ1 v H1 e1 r1 p1 => k ρ1 x h1 v H1 e1 r1 p1 (l.ext _ _ _ _ _ post e1)
  | exc x h => exact fun post => l.exc x h post
  | stuck => exact fun post => l.stuck post
theorem fstT {ta : TT} {ma : MT} {f : Bool → IH → γ} {S : Bool → Hp → Prop} (ha : ∀ ρ env ih σ H Q, Rel X.K xp ρ env ih σ H → PostT X.K X.mg W ρ σ H Q (ma env ih) → ta σ H Q) (rl : Rel X.K xp ρ env ih σ H)
    (l : Lk X.K X.mg W σ ρ H P fe st) (post : P ρ H ((ma env ih).bindG fe st f))
    (k : ∀ ρ1 b h1 H1, Ext ρ H ρ1 H1 → RelH X.K ρ1 h1 H1 → P ρ1 H1 (f b h1) → S b H1) : ta σ H S := by
  refine ha _ _ _ _ _ _ rl ?_
  revert post
  cases ma env ih with
  | ok x h1 => exact fun post ρ1 H1 e1 r1 => k ρ1 x h1 H1 e1 r1 (l.ext _ _ _ _ _ post e1)
  | exc x h => exact fun post => l.exc x h post
  | stuck => exact fun post => l.stuck post
theorem fstA {ta : TA} {ma : MA} {f : List D → IH → γ} {S : List V → Hp → Prop} (ha : ∀ ρ env ih σ H Q, Rel X.K xp ρ env ih σ H → PostA X.K X.mg W ρ σ H Q (ma env ih) → ta σ H Q) (rl : Rel X.K xp ρ env ih σ H)
    (l : Lk X.K X.mg W σ ρ H P fe st) (post : P ρ H ((ma env ih).bindG fe st f))
    (k : ∀ ρ1 ds h1 vs H1, Ext ρ H ρ1 H1 → RelH X.K ρ1 h1 H1 → RepL X.K ρ1 H1 ds vs → P ρ1 H1 (f ds h1) → S vs H1) : ta σ H S := by
  refine ha _ _ _ _ _ _ rl ?_
  revert post
  cases ma env ih with
  | ok x h1 => exact fun post ρ1 v H1 e1 r1 p1 => k ρ1 x h1 v H1 e1 r1 p1 (l.ext _ _ _ _ _ post e1)
  | exc x h => exact fun post => l.exc x h post
  | stuck => exact fun post => l.stuck post
end
section
variable {xp : Option XP} {X : Cx} {a b c : Expr} {ma mb mc : ME} {pos : Pos}
/-- two expressions, then an end -/
theorem bin2 {W : WX} {ta tb : TE} {m : MO} {S : V → V → Hp → Prop} {Q : VK}
    (ha : ∀ ρ env ih σ H Q, Rel X.K xp ρ env ih σ H → PostE X.K X.mg W ρ σ H Q (ma env ih) → ta σ H Q)
    (hb : ∀ ρ env ih σ H Q, Rel X.K xp ρ env ih σ H → PostE X.K X.mg W ρ σ H Q (mb env ih) → tb σ H Q)
    {ρ : Rho} {env : Ev} {ih : IH} {σ : L2.St} {H : Hp} (rl : Rel X.K xp ρ env ih σ H) (post : PostE X.K X.mg W ρ σ H Q (binM m ma mb env ih))
    (hr : ∀ ρ1 ih H1 d e x y, Ext ρ H ρ1 H1 → RelH X.K ρ1 ih H1 → RepV X.K ρ1 H1 d x → RepV X.K ρ1 H1 e y → PostE X.K X.mg W ρ1 σ H1 Q (m d e ih) → S x y H1) :
    ta σ H fun x H1 => tb σ H1 fun y H2 => S x y H2 := by
  refine fstE (ta := ta) ha rl (lkE (Q := Q)) post fun ρ1 d h1 v H1 e1 r1 p1 post => ?_
  exact fstE (ta := tb) hb (rl.next e1 r1) (lkE (Q := Q)) post fun ρ2 e h2 u H2 e2 r2 p2 post => hr ρ2 h2 H2 d e v u (e1.trans e2) r2 (p1.ext e2) p2 post
theorem s_bin {op : Operator} {m : MO} (o : SO X (binaryOp op) m) (A : SE xp X a ma) (B : SE xp X b mb) : SE xp X (.BinOp a op b pos) (binM m ma mb) := fun W tk => by
  obtain ⟨ta, pa, ha⟩ := A W tk
  obtain ⟨tb, pb, hb⟩ := B W tk
  obtain ⟨r, ho, hr⟩ := o
  exact ⟨_, pe_op ho pa pb, fun ρ env ih σ H Q rl post => bin2 ha hb rl post fun ρ1 ih1 H1 d e x y _ h1 h2 h3 => hr W ρ1 ih1 H1 σ Q d e x y h1 h2 h3⟩
theorem s_cmp {op : CmpOp} {m : MO} (o : SO X (compareOp op) m) (A : SE xp X a ma) (B : SE xp X b mb) (hm : behindInMarks op b = false := by first | exact nomark _ | rfl | with_unfolding_all rfl) : SE xp X (.Compare a [op] [b] pos) (binM m ma mb) := fun W tk => by
  obtain ⟨ta, pa, ha⟩ := A W tk
  obtain ⟨tb, pb, hb⟩ := B W tk
  obtain ⟨r, ho, hr⟩ := o
  exact ⟨_, pe_cmpR ho pa pb hm, fun ρ env ih σ H Q rl post => bin2 ha hb rl post fun ρ1 ih1 H1 d e x y _ h1 h2 h3 => hr W ρ1 ih1 H1 σ Q d e x y h1 h2 h3⟩
/-- a < b < c, behind a < b -/
def chain2 (o' : MO) (mc : ME) (env : Ev) (y : D) : D → IH → R D
  | .bl true, h => (mc env h).bind fun w h => o' y w h
  | .bl false, h => .ok (.bl false) h
  | _, _ => .stuck
def chainM (o o' : MO) (ma mb mc : ME) : ME := fun env h => (ma env h).bind fun x h => (mb env h).bind fun y h => (o x y h).bind fun z h => chain2 o' mc env y z h
theorem chain_ok {W : WX} {ta tb tc : TE} {r r' : R2} {m m' : MO} {Q : VK} {ρ : Rho} {env : Ev} {ih : IH} {σ : L2.St} {H : Hp}
    (hr : ∀ W ρ ih H σ Q d e x y, RelH X.K ρ ih H → RepV X.K ρ H d x → RepV X.K ρ H e y → PostE X.K X.mg W ρ σ H Q (m d e ih) → r x y H Q)
    (hr' : ∀ W ρ ih H σ Q d e x y, RelH X.K ρ ih H → RepV X.K ρ H d x → RepV X.K ρ H e y → PostE X.K X.mg W ρ σ H Q (m' d e ih) → r' x y H Q)
    (ha : ∀ ρ env ih σ H Q, Rel X.K xp ρ env ih σ H → PostE X.K X.mg W ρ σ H Q (ma env ih) → ta σ H Q)
    (hb : ∀ ρ env ih σ H Q, Rel X.K xp ρ env ih σ H → PostE X.K X.mg W ρ σ H Q (mb env ih) → tb σ H Q)
    (hc : ∀ ρ env ih σ H Q, Rel X.K xp ρ env ih σ H → PostE X.K X.mg W ρ σ H Q (mc env ih) → tc σ H Q)
    (rl : Rel X.K xp ρ env ih σ H) (post : PostE X.K X.mg W ρ σ H Q (chainM m m' ma mb mc env ih)) : tChain r r' ta tb tc σ H Q := by
  refine fstE (ta := ta) ha rl (lkE (Q := Q)) post fun ρ1 d h1 v H1 e1 r1 p1 post => ?_
  have rl1 := rl.next e1 r1
  refine fstE (ta := tb) hb rl1 (lkE (Q := Q)) post fun ρ2 e h2 u H2 e2 r2 p2 post => ?_
  have rl2 := rl1.next e2 r2
  refine hr W ρ2 h2 H2 σ _ d e v u r2 (p1.ext e2) p2 ?_
  revert post
  cases m d e h2 with
  | ok z h3 =>
    intro post ρ3 z' H3 e3 r3 p3
    have post : PostE X.K X.mg W ρ3 σ H3 Q (chain2 m' mc env e z h3) := PostE.ext post e3
    cases p3 with
    | bl b =>
      cases b with
      | true => exact ⟨true, rfl, fstE (ta := tc) hc (rl2.next e3 r3) (lkE (Q := Q)) post fun ρ4 w h4 w' H4 e4 r4 p4 post => hr' W ρ4 h4 H4 σ Q e w u w' r4 (p2.ext (e3.trans e4)) p4 post⟩
      | false => exact ⟨false, rfl, post ρ3 _ H3 .refl r3 (.bl _)⟩
    | _ => exact False.elim post
  | exc x h => exact fun post => post
  | stuck => exact fun post => post
theorem s_chain {op op' : CmpOp} {m m' : MO} (o : SO X (compareOp op) m) (o' : SO X (compareOp op') m') (A : SE xp X a ma) (B : SE xp X b mb) (C : SE xp X c mc)
    (hm : lastMarks [op, op'] [b, c] = false := by with_unfolding_all rfl) : SE xp X (.Compare a [op, op'] [b, c] pos) (chainM m m' ma mb mc) := fun W tk => by
  obtain ⟨ta, pa, ha⟩ := A W tk
  obtain ⟨tb, pb, hb⟩ := B W tk
  obtain ⟨tc, pc, hc⟩ := C W tk
  obtain ⟨r, ho, hr⟩ := o
  obtain ⟨r', ho', hr'⟩ := o'
  refine ⟨_, pe_chain ho ho' pa pb pc hm, fun ρ env ih σ H Q rl post => ?_⟩
  exact chain_ok hr hr' ha hb hc rl post
end
section
variable {xp : Option XP} {X : Cx} {a b e : Expr} {es rest : List Expr} {ma mb : ME} {mt : MT} {ms : MA} {pos : Pos}
/-! ### argument lists, displays -/
def anilM : MA := fun _ h => .ok [] h
def aconsM (ma : ME) (ms : MA) : MA := fun env h => (ma env h).bind fun d h => (ms env h).bind fun ds h => .ok (d :: ds) h
theorem s_anil : SA xp X [] anilM := fun W tk => ⟨_, pa_nil, fun ρ env ih σ H Q rl post => post ρ [] H .refl rl.hp .nil⟩
theorem s_acons (A : SE xp X e ma) (B : SA xp X es ms) (hs : starEach (e :: es) X.env = (false, eval e X.env) :: starEach es X.env := by rfl) : SA xp X (e :: es) (aconsM ma ms) := fun W tk => by
  obtain ⟨ta, pa, ha⟩ := A W tk
  obtain ⟨tb, pb, hb⟩ := B W tk
  refine ⟨_, pa_cons pa pb hs, fun ρ env ih σ H Q rl post => ?_⟩
  refine fstE (ta := ta) ha rl (lkA (Q := Q)) post fun ρ1 d h1 v H1 e1 r1 p1 post => ?_
  exact fstA (ta := tb) hb (rl.next e1 r1) (lkA (Q := Q)) post fun ρ2 ds h2 vs H2 e2 r2 p2 post => post ρ2 _ H2 .refl r2 (.cons (p1.ext e2) p2)
def tupM (ms : MA) : ME := fun env h => (ms env h).bind fun ds h => if ds.length ≤ sizeLine then .ok (.tup ds) h else .stuck
def lstM (ms : MA) : ME := fun env h => (ms env h).bind fun ds h => if ds.length ≤ sizeLine then newL h ds else .stuck
theorem s_tup {p1 : Nat} (A : SA xp X es ms) : SE xp X (.Tuple es p1 pos) (tupM ms) := fun W tk => by
  obtain ⟨ta, pa, ha⟩ := A W tk
  refine ⟨_, pe_tup pa, fun ρ env ih σ H Q rl post => ?_⟩
  refine fstA (ta := ta) ha rl (lkE (Q := Q)) post fun ρ1 ds h1 vs H1 e1 r1 p1 post => ?_
  split at post
  · rename_i c
    exact ⟨by rw [← p1.length]; exact c, fun p hp => post ρ1 _ _ (Ext.fresh hp) (r1.aside hp) (.tup (SqT.of upd_same) (p1.ext (Ext.fresh hp)))⟩
  · exact post.elim
theorem s_lst (A : SA xp X es ms) : SE xp X (.List es pos) (lstM ms) := fun W tk => by
  obtain ⟨ta, pa, ha⟩ := A W tk
  refine ⟨_, pe_lst pa, fun ρ env ih σ H Q rl post => ?_⟩
  refine fstA (ta := ta) ha rl (lkE (Q := Q)) post fun ρ1 ds h1 vs H1 e1 r1 p1 post => ?_
  split at post
  · rename_i c
    refine ⟨by rw [← p1.length]; exact c, fun p hp => ?_⟩
    obtain ⟨ρ', x', rl', rv⟩ := alloc r1 hp p1
    exact post ρ' _ _ x' rl' rv
  · exact post.elim

/-! ### truth -/
def truB (h : IH) : D → Option Bool
  | .non => some false
  | .bl b => some b
  | .int i => some (i != 0)
  | .str x => if x.length ≤ sizeLine then some ((x.length : Int) != 0) else none
  | .tup ds => some (!ds.isEmpty)
  | .fz ds => some (!ds.isEmpty)
  | .ref n => match h[n]? with
    | some (.lst ds) => some (!ds.isEmpty)
    | _ => none
  | .xv => none
theorem RepL.isEmpty {K : PySem.W.Frag} {ρ : Rho} {ds : List D} {vs : List V} {H : Hp} (r : RepL K ρ H ds vs) : ds.isEmpty = vs.isEmpty := by cases r <;> rfl
theorem truV_of {K : PySem.W.Frag} {ρ : Rho} {H : Hp} {ih : IH} (rl : RelH K ρ ih H) {d : D} {v : V} {b : Bool} (q : truB ih d = some b) (r : RepV K ρ H d v) : TruV K v H b := by
  cases r with
  | non => cases q; rfl
  | bl c => cases q; rfl
  | int i => cases q; rfl
  | str x =>
    have q' : (if x.length ≤ sizeLine then some ((x.length : Int) != 0) else none) = some b := q
    split at q'
    · rename_i c
      cases q'
      exact ⟨c, rfl⟩
    · cases q'
  | tup h1 h2 =>
    cases q
    exact .inr (.inl ⟨_, h1, by rw [h2.isEmpty]⟩)
  | fz h1 h2 =>
    cases q
    exact .inl ⟨_, h1.sq, by rw [h2.isEmpty]⟩
  | @ref n a h1 =>
    have q' : (match ih[n]? with
      | some (.lst ds) => some (!ds.isEmpty)
      | _ => none) = some b := q
    split at q'
    · rename_i ds hn
      cases q'
      obtain ⟨vs, e, r⟩ := rl.lst h1 hn
      exact .inl ⟨vs, SqL.of e, by rw [r.isEmpty]⟩
    · cases q'
def testM (ma : ME) : MT := fun env h => (ma env h).bind fun d h => match truB h d with
  | some b => .ok b h
  | none => .stuck
theorem t_truth (A : SE xp X a ma) (he : ∀ whole, isTrue a X.env whole = (do let v ← whole; standAt a.pos; holding [v] (truthy v)) := by intro _; rfl) : ST xp X a (testM ma) := fun W tk => by
  obtain ⟨ta, pa, ha⟩ := A W tk
  refine ⟨_, pt_truth pa he, fun ρ env ih σ H Q rl post => ?_⟩
  refine fstE (ta := ta) ha rl (lkT (Q := Q)) post fun ρ1 d h1 v H1 e1 r1 p1 post => ?_
  split at post
  · rename_i b q
    exact ⟨b, truV_of r1 q p1, post ρ1 H1 .refl r1⟩
  · exact post.elim
def tnotM (mt : MT) : MT := fun env h => (mt env h).bind fun b h => .ok (!b) h
theorem t_not (A : ST xp X a mt) : ST xp X (.UnaryOp .Not a pos) (tnotM mt) := fun W tk => by
  obtain ⟨ta, pa, ha⟩ := A W tk
  refine ⟨_, pt_not pa, fun ρ env ih σ H Q rl post => ?_⟩
  exact fstT (ta := ta) ha rl (lkT (Q := Q)) post fun ρ1 b h1 H1 e1 r1 post => post ρ1 H1 .refl r1
def tandM (m1 m2 : MT) : MT := fun env h => (m1 env h).bind fun b h => if b = true then m2 env h else .ok false h
def torM (m1 m2 : MT) : MT := fun env h => (m1 env h).bind fun b h => if b = true then .ok true h else m2 env h
theorem w_and1 (A : ST xp X a mt) : SW xp X (.BoolOp .And [a] pos) mt := fun W tk => by
  obtain ⟨ta, pa, ha⟩ := A W tk
  exact ⟨_, pw_and1 pa, ha⟩
theorem w_or1 (A : ST xp X a mt) : SW xp X (.BoolOp .Or [a] pos) mt := fun W tk => by
  obtain ⟨ta, pa, ha⟩ := A W tk
  exact ⟨_, pw_or1 pa, ha⟩
variable {m1 m2 : MT}
theorem w_and (A : ST xp X a m1) (B : SW xp X (.BoolOp .And (b :: rest) pos) m2) : SW xp X (.BoolOp .And (a :: b :: rest) pos) (tandM m1 m2) := fun W tk => by
  obtain ⟨ta, pa, ha⟩ := A W tk
  obtain ⟨tb, pb, hb⟩ := B W tk
  refine ⟨_, pw_and pa pb, fun ρ env ih σ H Q rl post => ?_⟩
  refine fstT (ta := ta) ha rl (lkT (Q := Q)) post fun ρ1 b h1 H1 e1 r1 post => ?_
  cases b with
  | true => exact hb _ _ _ _ _ _ (rl.next e1 r1) post
  | false => exact post ρ1 H1 .refl r1
theorem w_or (A : ST xp X a m1) (B : SW xp X (.BoolOp .Or (b :: rest) pos) m2) : SW xp X (.BoolOp .Or (a :: b :: rest) pos) (torM m1 m2) := fun W tk => by
  obtain ⟨ta, pa, ha⟩ := A W tk
  obtain ⟨tb, pb, hb⟩ := B W tk
  refine ⟨_, pw_or pa pb, fun ρ env ih σ H Q rl post => ?_⟩
  refine fstT (ta := ta) ha rl (lkT (Q := Q)) post fun ρ1 b h1 H1 e1 r1 post => ?_
  cases b with
  | true => exact post ρ1 H1 .refl r1
  | false => exact hb _ _ _ _ _ _ (rl.next e1 r1) post
theorem t_of_w (A : SW xp X a mt) : ST xp X a mt := fun W tk => by
  obtain ⟨ta, pa, ha⟩ := A W tk
  exact ⟨_, pa.pt, ha⟩

/-! ### and, or, not as values -/
def andM (ma mb : ME) : ME := fun env h => (ma env h).bind fun d h => match truB h d with
  | some true => mb env h
  | some false => .ok d h
  | none => .stuck
def orM (ma mb : ME) : ME := fun env h => (ma env h).bind fun d h => match truB h d with
  | some true => .ok d h
  | some false => mb env h
  | none => .stuck
def notM (ma : ME) : ME := fun env h => (ma env h).bind fun d h => match truB h d with
  | some b => .ok (.bl (!b)) h
  | none => .stuck
theorem s_one {op : BoolOp} (A : SE xp X a ma) : SE xp X (.BoolOp op [a] pos) ma := fun W tk => by
  obtain ⟨ta, pa, ha⟩ := A W tk
  exact ⟨_, pe_one pa, ha⟩
theorem s_and (A : SE xp X a ma) (B : SE xp X (.BoolOp .And (b :: rest) pos) mb) : SE xp X (.BoolOp .And (a :: b :: rest) pos) (andM ma mb) := fun W tk => by
  obtain ⟨ta, pa, ha⟩ := A W tk
  obtain ⟨tb, pb, hb⟩ := B W tk
  refine ⟨_, pe_andT pa pb, fun ρ env ih σ H Q rl post => ?_⟩
  refine fstE (ta := ta) ha rl (lkE (Q := Q)) post fun ρ1 d h1 v H1 e1 r1 p1 post => ?_
  split at post
  · rename_i q
    exact ⟨true, truV_of r1 q p1, hb _ _ _ _ _ _ (rl.next e1 r1) post⟩
  · rename_i q
    exact ⟨false, truV_of r1 q p1, post ρ1 v H1 .refl r1 p1⟩
  · exact post.elim
theorem s_or (A : SE xp X a ma) (B : SE xp X (.BoolOp .Or (b :: rest) pos) mb) : SE xp X (.BoolOp .Or (a :: b :: rest) pos) (orM ma mb) := fun W tk => by
  obtain ⟨ta, pa, ha⟩ := A W tk
  obtain ⟨tb, pb, hb⟩ := B W tk
  refine ⟨_, pe_orT pa pb, fun ρ env ih σ H Q rl post => ?_⟩
  refine fstE (ta := ta) ha rl (lkE (Q := Q)) post fun ρ1 d h1 v H1 e1 r1 p1 post => ?_
  split at post
  · rename_i q
    exact ⟨true, truV_of r1 q p1, post ρ1 v H1 .refl r1 p1⟩
  · rename_i q
    exact ⟨false, truV_of r1 q p1, hb _ _ _ _ _ _ (rl.next e1 r1) post⟩
  · exact post.elim
theorem s_not (A : SE xp X a ma) : SE xp X (.UnaryOp .Not a pos) (notM ma) := fun W tk => by
  obtain ⟨ta, pa, ha⟩ := A W tk
  refine ⟨_, pe_notT pa, fun ρ env ih σ H Q rl post => ?_⟩
  refine fstE (ta := ta) ha rl (lkE (Q := Q)) post fun ρ1 d h1 v H1 e1 r1 p1 post => ?_
  split at post
  · rename_i b q
    exact ⟨b, truV_of r1 q p1, post ρ1 _ H1 .refl r1 (.bl _)⟩
  · exact post.elim
def iteM (mt : MT) (ma mb : ME) : ME := fun env h => (mt env h).bind fun b h => if b = true then ma env h else mb env h
theorem s_if {c : Expr} (C : ST xp X c mt) (A : SE xp X a ma) (B : SE xp X b mb) : SE xp X (.IfExp c a b pos) (iteM mt ma mb) := fun W tk => by
  obtain ⟨tc, pc, hc⟩ := C W tk
  obtain ⟨ta, pa, ha⟩ := A W tk
  obtain ⟨tb, pb, hb⟩ := B W tk
  refine ⟨_, pe_ifExp pc pa pb, fun ρ env ih σ H Q rl post => ?_⟩
  refine fstT (ta := tc) hc rl (lkE (Q := Q)) post fun ρ1 b h1 H1 e1 r1 post => ?_
  cases b with
  | true => exact ha _ _ _ _ _ _ (rl.next e1 r1) post
  | false => exact hb _ _ _ _ _ _ (rl.next e1 r1) post
def negM (ma : ME) : ME := fun env h => (ma env h).bind fun d h => match d with
  | .int i => .ok (.int (-i)) h
  | _ => .stuck
theorem s_neg (A : SE xp X a ma) : SE xp X (.UnaryOp .USub a pos) (negM ma) := fun W tk => by
  obtain ⟨ta, pa, ha⟩ := A W tk
  refine ⟨_, pe_un un_neg pa, fun ρ env ih σ H Q rl post => ?_⟩
  refine fstE (ta := ta) ha rl (lkE (Q := Q)) post fun ρ1 d h1 v H1 e1 r1 p1 post => ?_
  split at post
  · cases p1
    exact ⟨_, rfl, post ρ1 _ H1 .refl r1 (.int _)⟩
  · exact post.elim
/-! comparisons as tests -/
def btestM (ma : ME) : MT := fun env h => (ma env h).bind fun d h => match d with
  | .bl b => .ok b h
  | _ => .stuck
variable {c : Expr} {mc : ME}
theorem post_bt {K : PySem.W.Frag} {mg : Str → Option Value} {W : WX} {ρ : Rho} {σ : L2.St} {H : Hp} {Q : Bool → Hp → Prop} {r : R D} (post : PostT K mg W ρ σ H Q (r.bind fun d h => match d with
    | .bl b => .ok b h
    | _ => .stuck)) : PostE K mg W ρ σ H (fun x H' => ∃ k, x = .bl k ∧ Q k H') r := by
  cases r with
  | ok d h =>
    intro ρ' v H' x rl rv
    cases d with
    | bl b => cases rv; exact ⟨b, rfl, post ρ' H' x rl⟩
    | _ => exact post.elim
  | exc x h => exact post
  | stuck => exact post
theorem t_cmp {op : CmpOp} {m : MO} (o : SO X (compareOp op) m) (A : SE xp X a ma) (B : SE xp X b mb) (hm : behindInMarks op b = false := by first | exact nomark _ | rfl | with_unfolding_all rfl) : ST xp X (.Compare a [op] [b] pos) (btestM (binM m ma mb)) := fun W tk => by
  obtain ⟨ta, pa, ha⟩ := A W tk
  obtain ⟨tb, pb, hb⟩ := B W tk
  obtain ⟨r, ho, hr⟩ := o
  exact ⟨_, pt_cmpR ho pa pb hm, fun ρ env ih σ H Q rl post => bin2 (ta := ta) (tb := tb) ha hb rl (post_bt post) fun ρ1 ih1 H1 d e x y _ h1 h2 h3 => hr W ρ1 ih1 H1 σ _ d e x y h1 h2 h3⟩
theorem t_chain {op op' : CmpOp} {m m' : MO} (o : SO X (compareOp op) m) (o' : SO X (compareOp op') m') (A : SE xp X a ma) (B : SE xp X b mb) (C : SE xp X c mc)
    (hm : lastMarks [op, op'] [b, c] = false := by with_unfolding_all rfl) : ST xp X (.Compare a [op, op'] [b, c] pos) (btestM (chainM m m' ma mb mc)) := fun W tk => by
  obtain ⟨ta, pa, ha⟩ := A W tk
  obtain ⟨tb, pb, hb⟩ := B W tk
  obtain ⟨tc, pc, hc⟩ := C W tk
  obtain ⟨r, ho, hr⟩ := o
  obtain ⟨r', ho', hr'⟩ := o'
  refine ⟨_, pt_chain ho ho' pa pb pc hm, fun ρ env ih σ H Q rl post => ?_⟩
  exact chain_ok hr hr' ha hb hc rl (post_bt post)
end
end Z
/-! Z5: calls; what a def does; statements. -/
namespace Z
open PySem PySem.Spec PyProof.Rows L2

/-! ### references below a number -/
mutual
def D.lt (n : Nat) : D → Bool
  | .tup xs => D.ltL n xs
  | .fz xs => D.ltL n xs
  | .ref k => decide (k < n)
  | _ => true
def D.ltL (n : Nat) : List D → Bool
  | [] => true
  | d :: ds => D.lt n d && D.ltL n ds
end
section
variable {K : PySem.W.Frag} {ρ ρ' : Rho} {H H' : Hp}
mutual
theorem RepV.lt : ∀ {d : D} {v : V}, RepV K ρ H d v → d.lt ρ.as.length = true
  | .non, _, _ => rfl
  | .bl _, _, _ => rfl
  | .int _, _, _ => rfl
  | .str _, _, _ => rfl
  | .tup _, _, .tup _ h => RepL.lt h
  | .ref _, _, .ref h => decide_eq_true (List.getElem?_eq_some_iff.mp h).1
  | .fz _, _, .fz _ h => RepL.lt h
  | .xv, _, _ => rfl
theorem RepL.lt : ∀ {ds : List D} {vs : List V}, RepL K ρ H ds vs → D.ltL ρ.as.length ds = true
  | [], _, _ => rfl
  | _ :: _, _, .cons h t => by
    show (_ && _) = true
    rw [RepV.lt h, RepL.lt t]; rfl
end
mutual
theorem RepV.back (p : ρ.as <+: ρ'.as) : ∀ {d : D} {v : V}, RepV K ρ' H' d v → d.lt ρ.as.length = true → RepV K ρ H' d v
  | .non, _, .non, _ => .non
  | .bl _, _, .bl _, _ => .bl _
  | .int _, _, .int _, _ => .int _
  | .str _, _, .str _, _ => .str _
  | .tup _, _, .tup h1 h2, l => .tup h1 (RepL.back p h2 l)
  | .ref n, _, .ref h, l => by
    have hn : n < ρ.as.length := of_decide_eq_true l
    obtain ⟨t, e⟩ := p
    rw [← e, List.getElem?_append_left hn] at h
    exact .ref h
  | .fz _, _, .fz h1 h2, l => .fz h1 (RepL.back p h2 l)
theorem RepL.back (p : ρ.as <+: ρ'.as) : ∀ {ds : List D} {vs : List V}, RepL K ρ' H' ds vs → D.ltL ρ.as.length ds = true → RepL K ρ H' ds vs
  | [], _, .nil, _ => .nil
  | _ :: _, _, .cons h t, l => by
    have l' : (_ && _) = true := l
    rw [Bool.and_eq_true] at l'
    exact .cons (RepV.back p h l'.1) (RepL.back p t l'.2)
end
end
/-- what a def leaves that nobody can reach is forgotten -/
def Exc.lt (n : Nat) (x : Exc) : Bool := x.fs.all fun p => p.2.lt n
open Classical in
noncomputable def trunc (h : IH) : R D → R D
  | .ok d h' => if d.lt h.length = true ∧ h'.take h.length = h then .ok d h else .ok d h'
  | .exc x h' => if x.lt h.length = true ∧ h'.take h.length = h then .exc x h else .exc x h'
  | .stuck => .stuck
section
variable {K : PySem.W.Frag} {mg : Str → Option Value} {W : WX} {ρ ρ' : Rho} {σ : L2.St} {H H' : Hp} {ih ih' : IH}
theorem Ext.short (x : Ext ρ H ρ' H') : Ext ρ H ρ H' := ⟨List.prefix_refl _, fun _ z => .inl z, x.keep, x.tups, x.frzs, x.xds⟩
theorem RepF.back (p : ρ.as <+: ρ'.as) : ∀ {fs : List (Str × D)} {vs : List (Str × V)}, RepF K ρ' H' fs vs → (fs.all fun p => p.2.lt ρ.as.length) = true → RepF K ρ H' fs vs
  | _, _, .nil, _ => .nil
  | _, _, .cons r t, l => by
    rw [List.all_cons, Bool.and_eq_true] at l
    exact .cons (r.back p l.1) (RepF.back p t l.2)
theorem RepF.lt : ∀ {fs : List (Str × D)} {vs : List (Str × V)}, RepF K ρ H fs vs → (fs.all fun p => p.2.lt ρ.as.length) = true
  | _, _, .nil => rfl
  | _, _, .cons r t => by
    rw [List.all_cons, Bool.and_eq_true]
    exact ⟨r.lt, RepF.lt t⟩
theorem RepK.back {κ : Type} {f : κ → D} (p : ρ.as <+: ρ'.as) : ∀ {fs : List (D × D)} {vs : List (κ × V)}, RepK K ρ' H' f fs vs → (fs.all fun p => p.2.lt ρ.as.length) = true → RepK K ρ H' f fs vs
  | _, _, .nil, _ => .nil
  | _, _, .cons r t, l => by
    rw [List.all_cons, Bool.and_eq_true] at l
    exact .cons (r.back p l.1) (RepK.back p t l.2)
theorem RepK.lt {κ : Type} {f : κ → D} : ∀ {fs : List (D × D)} {vs : List (κ × V)}, RepK K ρ H f fs vs → (fs.all fun p => p.2.lt ρ.as.length) = true
  | _, _, .nil => rfl
  | _, _, .cons r t => by
    rw [List.all_cons, Bool.and_eq_true]
    exact ⟨r.lt, RepK.lt t⟩
theorem RelH.short (r : RelH K ρ ih H) (x : Ext ρ H ρ' H') (r' : RelH K ρ' ih' H') (e : ih'.take ih.length = ih) : RelH K ρ ih H' := by
  refine ⟨r.len, r.nd, fun n a o h1 h2 => ?_⟩
  have hn : n < ih.length := (List.getElem?_eq_some_iff.mp h2).1
  have h2' : ih'[n]? = some o := by
    rw [← e, List.getElem?_take] at h2
    simpa [hn] using h2
  have q' := r'.obj n a o (x.get h1) h2'
  have q := r.obj n a o h1 h2
  cases o with
  | lst ds =>
    obtain ⟨vs, e1, r1⟩ := q'
    obtain ⟨us, _, r2⟩ := q
    exact ⟨vs, e1, r1.back x.pre r2.lt⟩
  | dic kvs =>
    have l : (kvs.all fun p => p.2.lt ρ.as.length) = true := by
      rcases q with ⟨_, _, r⟩ | ⟨_, _, r⟩
      · exact r.lt
      · exact r.lt
    rcases q' with ⟨m, e1, r1⟩ | ⟨m, e1, r1⟩
    · exact .inl ⟨m, e1, r1.back x.pre l⟩
    · exact .inr ⟨m, e1, r1.back x.pre l⟩
  | ins c fs =>
    obtain ⟨dx, vs, e1, r1⟩ := q'
    obtain ⟨_, us, _, r2⟩ := q
    exact ⟨dx, vs, e1, r1.back x.pre r2.lt⟩
open Classical in
theorem trunc_post {Q : VK} (rl : RelH K ρ ih H) : ∀ {r : R D}, PostE K mg W ρ σ H Q (trunc ih r) → PostE K mg W ρ σ H Q r
  | .ok d h', post => fun ρ' v H' x r' rv => by
    have post : PostE K mg W ρ σ H Q (if d.lt ih.length = true ∧ h'.take ih.length = ih then .ok d ih else .ok d h') := post
    split at post
    · rename_i c
      exact post ρ v H' x.short (rl.short x r' c.2) (rv.back x.pre (by rw [rl.len]; exact c.1))
    · exact post ρ' v H' x r' rv
  | .exc y h', post => fun ρ' cls od H' x r' rx => by
    have post : PostE K mg W ρ σ H Q (if y.lt ih.length = true ∧ h'.take ih.length = ih then .exc y ih else .exc y h') := post
    split at post
    · rename_i c
      refine post ρ cls od H' x.short (rl.short x r' c.2) ?_
      obtain ⟨d, vs, e2, e3, e4, e5⟩ := rx
      exact ⟨d, vs, e2, e3, e4, e5.back x.pre (by rw [rl.len]; exact c.1)⟩
    · exact post ρ' cls od H' x r' rx
  | .stuck, post => post
end

/-! ### defs -/
abbrev MF := List D → IH → R D
/-- a def's promise -/
def spF (K : PySem.W.Frag) (mg : Str → Option Value) (n : Nat) (F : MF) : Sp := fun vs H Q E => vs.length = n ∧ ∃ ρ ds ih, RelH K ρ ih H ∧ RepL K ρ H ds vs ∧ PostE K mg (fun cls od _ H => E cls od H) ρ [] H Q (F ds ih)
theorem PostE.slot {K : PySem.W.Frag} {mg : Str → Option Value} {E : XK} {ρ : Rho} {σ σ' : L2.St} {H : Hp} {Q : VK} : ∀ {r : R D}, PostE K mg (fun cls od _ H => E cls od H) ρ σ H Q r → PostE K mg (fun cls od _ H => E cls od H) ρ σ' H Q r
  | .ok _ _, h => h
  | .exc _ _, h => h
  | .stuck, h => h
/-- the def named x does F, for n arguments, in k levels -/
structure FS (P : Program) (w : World) (K : PySem.W.Frag) (mg : Str → Option Value) (base : Heap) (x : Str) (k n : Nat) (F : MF) : Prop where
  ex : ∃ (f : Addr) (fd : FuncData) (ps : List Str), mg x = some (.ref f) ∧ PySem.W.keepIn K (.ref f) = true ∧ Binds K fd ps [] ∧ FnOk P w K mg base (L2.CX P w) k f fd ps (spF K mg n F)
def callM (F : MF) (ms : MA) : ME := fun env h => (ms env h).bind fun ds h => F ds h
section
variable {xp : Option XP} {X : Cx} {e : Expr} {es : List Expr} {x : Str} {k j n : Nat} {F : MF} {ms : MA} {p pos : Pos}
theorem s_call (f : FS X.prog X.w X.K X.mg X.base x k n F) (hr : Room j X.A) (hk : k ≤ j) (hg : Gl X x) (hl : (e :: es).length = n) (A : SA xp X (e :: es) ms)
    (hdb : (x == ("__debug__" : Str)) = false := by decide) (he : starEach (e :: es) X.env = (false, eval e X.env) :: starEach es X.env := by rfl) (hpl : (backTo pos (starEach es X.env)).any (·.1) = false := by rfl)
    (hml : ∀ env h ds h', ms env h = .ok ds h' → ds.length = (e :: es).length) : SE xp X (.Call (.Name x p) (e :: es) [] pos) (callM F ms) := fun W tk => by
  obtain ⟨ta, pa, ha⟩ := A W tk
  obtain ⟨fa, fd, ps, hm, hkp, hb, hF⟩ := f.ex
  refine ⟨_, pe_callS hF (hr.mono hk) hg hm hkp hb (fun σ => passAt tk σ) pa hdb he hpl, fun ρ env ih σ H Q rl post => ?_⟩
  have post : PostE X.K X.mg W ρ σ H Q ((ms env ih).bind fun ds h => F ds h) := post
  have hml := hml env ih
  revert post
  cases q : ms env ih with
  | ok ds h1 =>
    intro post
    refine ha ρ env ih σ H _ rl ?_
    rw [q]
    intro ρ1 vs H1 e1 r1 p1
    refine ⟨by rw [← p1.length, hml ds h1 q]; exact hl, ρ1, ds, h1, r1, p1, ?_⟩
    have post : PostE X.K X.mg W ρ1 σ H1 Q (F ds h1) := PostE.ext post e1
    revert post
    cases F ds h1 with
    | ok d h => exact fun post => post
    | exc x h => exact fun post => post
    | stuck => exact fun post => post
  | exc x h =>
    intro post
    refine ha ρ env ih σ H _ rl ?_
    rw [q]
    exact post
  | stuck => exact fun post => post.elim
end

/-! ### statements -/
section
variable {xp : Option XP} {X : Cx} {e : Expr} {st : Stmt} {rest a b : List Stmt} {ma : ME} {mt : MT} {m m1 m2 : MS} {pos : Pos}
def seqM (m1 m2 : MS) : MS := fun env h => match m1 env h with
  | .nx e h => m2 e h
  | .rt d h => .rt d h
  | .bk e h => .bk e h
  | .ct e h => .ct e h
  | .exc x e h => .exc x e h
  | .stuck => .stuck
def nextM : MS := fun env h => .nx env h
def brkM : MS := fun env h => .bk env h
def contM : MS := fun env h => .ct env h
theorem ss_nil : SSs xp X [] nextM := fun W tk => ⟨_, pss_nil, fun ρ env ih σ H N rl post => post ρ σ H .refl rl⟩
theorem ss_one (A : SS xp X st m) : SSs xp X [st] m := fun W tk => by
  obtain ⟨ta, pa, ha⟩ := A W tk
  exact ⟨_, pss_one pa, ha⟩
theorem ss_cons (A : SS xp X st m1) (B : SSs xp X rest m2) : SSs xp X (st :: rest) (seqM m1 m2) := fun W tk => by
  obtain ⟨ta, pa, ha⟩ := A W tk
  obtain ⟨tb, pb, hb⟩ := B W tk
  refine ⟨_, pss_cons pa pb, fun ρ env ih σ H N rl post => ?_⟩
  show ta { N with nx := tb N } σ H
  refine ha _ _ _ _ _ _ rl ?_
  revert post
  unfold seqM
  cases m1 env ih with
  | nx e1 h1 => exact fun post ρ1 σ1 H1 x1 r1 => hb _ _ _ _ _ _ r1 (PostS.ext post x1)
  | rt d h => exact fun post => post
  | bk e h => exact fun post => post
  | ct e h => exact fun post => post
  | exc x e h => exact fun post => post
  | stuck => exact fun post => post
theorem st_pass : SS xp X (.Pass pos) nextM := fun W tk => ⟨_, ps_pass, fun ρ env ih σ H N rl post => post ρ σ H .refl rl⟩
theorem st_break : SS xp X (.Break pos) brkM := fun W tk => ⟨_, ps_break, fun ρ env ih σ H N rl post => post ρ σ H .refl rl⟩
theorem st_cont : SS xp X (.Continue pos) contM := fun W tk => ⟨_, ps_continue, fun ρ env ih σ H N rl post => post ρ σ H .refl rl⟩
def exprM (ma : ME) : MS := fun env h => (ma env h).thenS env fun _ h => .nx env h
def retM (ma : ME) : MS := fun env h => (ma env h).thenS env fun d h => .rt d h
theorem st_expr (A : SE xp X e ma) (hs : swapsWith e none pos.line X.env = pure false := by rfl) : SS xp X (.Expr e pos) (exprM ma) := fun W tk => by
  obtain ⟨ta, pa, ha⟩ := A W tk
  refine ⟨_, ps_expr pa hs, fun ρ env ih σ H N rl post => ?_⟩
  exact fstE (ta := ta) ha rl (lkS (N := N) rl) post fun ρ1 d h1 v H1 e1 r1 p1 post => post ρ1 σ H1 .refl (rl.next e1 r1)
theorem st_ret (A : SE xp X e ma) : SS xp X (.Return (some e) pos) (retM ma) := fun W tk => by
  obtain ⟨ta, pa, ha⟩ := A W tk
  refine ⟨_, ps_ret pa, fun ρ env ih σ H N rl post => ?_⟩
  exact fstE (ta := ta) ha rl (lkS (N := N) rl) post fun ρ1 d h1 v H1 e1 r1 p1 post => post ρ1 v H1 .refl r1 p1
def retNM : MS := fun _ h => .rt .non h
theorem st_retN : SS xp X (.Return none pos) retNM := fun W tk => ⟨_, ps_retN, fun ρ env ih σ H N rl post => post ρ .non H .refl rl.hp .non⟩
def ifM (mt : MT) (m1 m2 : MS) : MS := fun env h => (mt env h).thenS env fun b h => if b = true then m1 env h else m2 env h
theorem st_if {c : Expr} (C : ST xp X c mt) (A : SSs xp X a m1) (B : SSs xp X b m2) : SS xp X (.If c a b pos) (ifM mt m1 m2) := fun W tk => by
  obtain ⟨tc, pc, hc⟩ := C W tk
  obtain ⟨ta, pa, ha⟩ := A W tk
  obtain ⟨tb, pb, hb⟩ := B W tk
  refine ⟨_, ps_if pc pa pb, fun ρ env ih σ H N rl post => ?_⟩
  refine fstT (ta := tc) hc rl (lkS (N := N) rl) post fun ρ1 b h1 H1 e1 r1 post => ?_
  cases b with
  | true => exact ha _ _ _ _ _ _ (rl.next e1 r1) post
  | false => exact hb _ _ _ _ _ _ (rl.next e1 r1) post
/-! assignments -/
/-- a target of names: what it makes of the slots -/
abbrev MG := D → Ev → Option Ev
def SG (xp : Option XP) (X : Cx) (tg : Expr) (g : MG) : Prop := ∃ t, PG X tg t ∧ ∀ ρ env ih σ H Q d v env', Rel X.K xp ρ env ih σ H → RepV X.K ρ H d v → g d env = some env' → (∀ σ', Rel X.K xp ρ env' ih σ' H → Q σ' H) → t v σ H Q
def gnameM (i : Nat) : MG := fun d env => some (env.set i (some d))
theorem sg_name {i : Nat} {x : Str} (h : PG X (.Name x pos) (gName i)) : SG xp X (.Name x pos) (gnameM i) := ⟨_, h, fun ρ env ih σ H Q d v env' rl rv e q => by
  cases e
  exact q _ (rl.set i rv)⟩
abbrev MGs := List D → Ev → Option Ev
def SGs (xp : Option XP) (X : Cx) (tgs : List Expr) (g : MGs) : Prop := ∃ t, PGs X tgs t ∧ ∀ ρ env ih σ H Q ds vs env', Rel X.K xp ρ env ih σ H → RepL X.K ρ H ds vs → g ds env = some env' → (∀ σ', Rel X.K xp ρ env' ih σ' H → Q σ' H) → t vs σ H Q
def gnilM : MGs := fun ds env => match ds with
  | [] => some env
  | _ => none
def gconsM (g : MG) (gs : MGs) : MGs := fun ds env => match ds with
  | d :: ds => (g d env).bind fun env => gs ds env
  | _ => none
theorem sgs_nil : SGs xp X [] gnilM := ⟨_, pgs_nil, fun ρ env ih σ H Q ds vs env' rl rv e q => by
  cases rv with
  | nil => cases e; exact ⟨rfl, q σ rl⟩
  | cons _ _ => cases e⟩
end
end Z
/-! Z6: assignments, loops. -/
namespace Z
open PySem PySem.Spec PyProof.Rows L2
section
variable {xp : Option XP} {X : Cx} {e : Expr} {st : Stmt} {rest a b : List Stmt} {ma : ME} {mt : MT} {m m1 m2 : MS} {pos : Pos}
theorem sgs_cons {t : Expr} {ts : List Expr} {g : MG} {gs : MGs} (A : SG xp X t g) (B : SGs xp X ts gs) (hs : (assignEach (t :: ts) X.env).map (·.2) = assign t X.env :: (assignEach ts X.env).map (·.2) := by rfl) : SGs xp X (t :: ts) (gconsM g gs) := by
  obtain ⟨ta, pa, ha⟩ := A
  obtain ⟨tb, pb, hb⟩ := B
  refine ⟨_, pgs_cons pa pb hs, fun ρ env ih σ H Q ds vs env' rl rv e q => ?_⟩
  cases rv with
  | nil => cases e
  | cons r t =>
    obtain ⟨env1, e1, e2⟩ := Option.bind_eq_some_iff.mp e
    exact ⟨_, _, rfl, ha ρ env ih σ H _ _ _ env1 rl r e1 fun σ1 r1 => hb ρ env1 ih σ1 H Q _ _ env' r1 t e2 q⟩
def gtupM (n : Nat) (gs : MGs) : MG := fun d env => match d with
  | .tup ds => if ds.length = n then gs ds env else none
  | _ => none
theorem sg_tup {es : List Expr} {k n : Nat} {gs : MGs} (hc : X.calm = true) (h : SGs xp X es gs) (hn : (assignEach es X.env).length = n := by rfl) (hst : (assignEach es X.env).findIdx? (·.1) = none := by rfl) : SG xp X (.Tuple es k pos) (gtupM n gs) := by
  obtain ⟨ta, pa, ha⟩ := h
  refine ⟨_, pg_tup hc pa hn hst, fun ρ env ih σ H Q d v env' rl rv e q => ?_⟩
  cases rv with
  | tup h1 h2 =>
    have e : (if _ then _ else _) = some env' := e
    split at e
    · rename_i c
      exact ⟨_, _, rfl, h1, by rw [← h2.length]; exact c, ha ρ env ih σ H Q _ _ env' rl h2 e q⟩
    · cases e
  | _ => cases e
/-- name = e -/
def setM (i : Nat) (ma : ME) : MS := fun env h => (ma env h).thenS env fun d h => .nx (env.set i (some d)) h
theorem st_set {i : Nat} {x : Str} {pos' : Pos} (hN : X.N.Nodup) (hi : X.N[i]? = some x) (hx : Loc X.env.scope x) (A : SE xp X e ma) (hs : swapsWith e (some (.Name x pos')) pos.line X.env = pure false := by rfl)
    (hf : X.fn x = true ∨ X.env.scope.names.lookup x = some .local := by first | exact .inl rfl | exact .inr rfl | assumption) : SS xp X (.Assign [.Name x pos'] e pos) (setM i ma) := fun W tk => by
  obtain ⟨ta, pa, ha⟩ := A W tk
  refine ⟨_, ps_set (i := i) hN hi hx pa hs hf, fun ρ env ih σ H N rl post => ?_⟩
  exact fstE (ta := ta) ha rl (lkS (N := N) rl) post fun ρ1 d h1 v H1 e1 r1 p1 post => post ρ1 _ H1 .refl ((rl.next e1 r1).set i p1)
/-- target = e -/
def asgM (g : MG) (ma : ME) : MS := fun env h => (ma env h).thenS env fun d h => match g d env with
  | some env => .nx env h
  | none => .stuck
theorem st_asg {tg : Expr} {g : MG} (A : SE xp X e ma) (G : SG xp X tg g) (hs : swapsWithSole [tg] e pos.line X.env = pure false := by rfl) (hw : swappedStores [tg] e X.env = pure none := by rfl)
    (h1 : (assignEach [tg] X.env).map (·.2) = [assign tg X.env] := by rfl) : SS xp X (.Assign [tg] e pos) (asgM g ma) := fun W tk => by
  obtain ⟨ta, pa, ha⟩ := A W tk
  obtain ⟨tg, pg, hg⟩ := G
  refine ⟨_, ps_asg pa pg hs hw h1, fun ρ env ih σ H N rl post => ?_⟩
  refine fstE (ta := ta) ha rl (lkS (N := N) rl) post fun ρ1 d h1 v H1 e1 r1 p1 post => ?_
  split at post
  · rename_i env' q
    exact hg ρ1 env h1 σ H1 _ d v env' (rl.next e1 r1) p1 q fun σ' r' => post ρ1 σ' H1 .refl r'
  · exact post.elim
/-- a, b = x, y -/
def parM (i j : Nat) (ms : MA) : MS := fun env h => (ms env h).thenS env fun ds h => match ds with
  | [d, e] => .nx ((env.set i (some d)).set j (some e)) h
  | _ => .stuck
theorem st_par {i j : Nat} {x y : Str} {a b : Expr} {ms : MA} {px py pt : Pos} {kt k2 pt2} (hc : X.calm = true) (hN : X.N.Nodup) (hi : X.N[i]? = some x) (hj : X.N[j]? = some y) (hij : i ≠ j)
    (hx : X.env.scope.names.lookup x = some .local) (hy : X.env.scope.names.lookup y = some .local) (A : SA xp X [a, b] ms)
    (hw : swappedStores [.Tuple [.Name x px, .Name y py] kt pt] (.Tuple [a, b] k2 pt2) X.env = pure (some [x, y]))
    (hs : swapsWithSole [.Tuple [.Name x px, .Name y py] kt pt] (.Tuple [a, b] k2 pt2) pos.line X.env = pure false := by rfl) :
    SS xp X (.Assign [.Tuple [.Name x px, .Name y py] kt pt] (.Tuple [a, b] k2 pt2) pos) (parM i j ms) := fun W tk => by
  obtain ⟨ta, pa, ha⟩ := A W tk
  refine ⟨_, ps_par hc hN hi hj hij hx hy pa hw hs, fun ρ env ih σ H N rl post => ?_⟩
  refine fstA (ta := ta) ha rl (lkS (N := N) rl) post fun ρ1 ds h1 vs H1 e1 r1 p1 post => ?_
  split at post
  · cases p1 with
    | cons q1 t =>
      cases t with
      | cons q2 t =>
        cases t
        exact ⟨_, _, rfl, post ρ1 _ H1 .refl (((rl.next e1 r1).set i q1).set j q2)⟩
  · exact post.elim
/-- o[i] = e -/
abbrev MP := D → D → D → IH → Option IH
def SP' (X : Cx) (m : MP) : Prop := ∃ t, PSet X t ∧ ∀ ρ ih ih' H Q o i d x y v, RelH X.K ρ ih H → RepV X.K ρ H o x → RepV X.K ρ H i y → RepV X.K ρ H d v → m o i d ih = some ih' → (∀ H', Ext ρ H ρ H' → RelH X.K ρ ih' H' → Q H') → t x y v H Q
def putM (p : MP) (mo mi ma : ME) : MS := fun env h => (ma env h).thenS env fun d h => (mo env h).thenS env fun o h => (mi env h).thenS env fun i h => match p o i d h with
  | some h => .nx env h
  | none => .stuck
theorem st_put {o i : Expr} {mo mi : ME} {p : MP} {pos' : Pos} (P : SP' X p) (O : SE xp X o mo) (I : SE xp X i mi) (A : SE xp X e ma)
    (ha : ∀ v, assign (.Subscript o i pos') X.env v = (do
      let ov ← holding [v] (eval o X.env)
      let iv ← holding [v, ov] (eval i X.env)
      standAt pos'
      holding [v, ov, iv] (setItem ov iv v)
      release [v, ov, iv] []) := by intro _; rfl) (hs : swapsWithSole [.Subscript o i pos'] e pos.line X.env = pure false := by rfl) (hw : swappedStores [.Subscript o i pos'] e X.env = pure none := by rfl)
    (h1 : (assignEach [.Subscript o i pos'] X.env).map (·.2) = [assign (.Subscript o i pos') X.env] := by rfl) : SS xp X (.Assign [.Subscript o i pos'] e pos) (putM p mo mi ma) := fun W tk => by
  obtain ⟨ta, pa, ha'⟩ := A W tk
  obtain ⟨to, po, ho⟩ := O W tk
  obtain ⟨ti, pi, hi⟩ := I W tk
  obtain ⟨t, pt, ht⟩ := P
  refine ⟨_, ps_asg pa (pg_sub po pi pt ha) hs hw h1, fun ρ env ih σ H N rl post => ?_⟩
  refine fstE (ta := ta) ha' rl (lkS (N := N) rl) post fun ρ1 d h1 v H1 e1 r1 p1 post => ?_
  have rl1 := rl.next e1 r1
  refine fstE (ta := to) ho rl1 (lkS (N := N) rl1) post fun ρ2 o h2 x H2 e2 r2 p2 post => ?_
  have rl2 := rl1.next e2 r2
  refine fstE (ta := ti) hi rl2 (lkS (N := N) rl2) post fun ρ3 i h3 y H3 e3 r3 p3 post => ?_
  split at post
  · rename_i h4 q
    exact ht ρ3 h3 h4 H3 _ o i d x y v r3 (p2.ext e3) p3 (p1.ext (e2.trans e3)) q fun H' x' r' => post ρ3 σ H' x' ((rl2.next e3 r3).next x' r')
  · exact post.elim
/-- a list's item -/
def setL : MP := fun o i d h => match o, i with
  | .ref n, .int k => match h[n]? with
    | some (.lst xs) => (ixN xs.length k).map fun j => h.set n (.lst (xs.set j d))
    | _ => none
  | _, _ => none
theorem p_list : SP' X setL := ⟨_, set_list, fun ρ ih ih' H Q o i d x y v rl ro ri rd e q => by
  unfold setL at e
  split at e
  · split at e
    · rename_i n k _ xs hn
      obtain ⟨j, e1, e2⟩ := Option.map_eq_some_iff.mp e
      subst e2
      cases ro with
      | @ref _ p hp =>
        cases ri
        obtain ⟨vs, hv, rv⟩ := rl.lst hp hn
        obtain ⟨x', rl'⟩ := rewrite rl hp hv (rv.set rd j)
        exact ⟨p, vs, k, j, rfl, rfl, hv, by rw [← rv.length]; exact e1, q _ x' rl'⟩
    · cases e
  · cases e⟩
/-- x += e, of ints | texts | tuples, as x = x + e; of lists not -/
def augM (i : Nat) (o : MO) (ma : ME) : MS := fun env h => match env[i]? with
  | some (some .xv) => .stuck
  | some (some d) => (ma env h).thenS env fun e h => (o d e h).thenS env fun d h => .nx (env.set i (some d)) h
  | _ => .stuck
def SIp (X : Cx) (op : Operator) (m : MO) : Prop := ∃ r, PIp X op r ∧
  ∀ W ρ ih H σ Q d e x y, RelH X.K ρ ih H → RepV X.K ρ H d x → RepV X.K ρ H e y → PostE X.K X.mg W ρ σ H Q (m d e ih) → r x y H Q
theorem st_aug {i : Nat} {x : Str} {op : Operator} {o : MO} {pos' : Pos} (hN : X.N.Nodup) (hi : X.N[i]? = some x) (hx : Loc X.env.scope x) (A : SE xp X e ma) (O : SIp X op o)
    (hf : X.fn x = true ∨ X.env.scope.names.lookup x = some .local := by first | exact .inl rfl | exact .inr rfl | assumption) : SS xp X (.AugAssign (.Name x pos') op e pos) (augM i o ma) := fun W tk => by
  obtain ⟨ta, pa, ha⟩ := A W tk
  obtain ⟨r, pr, hr⟩ := O
  refine ⟨_, ps_aug (i := i) hN hi hx pa pr hf, fun ρ env ih σ H N rl post => ?_⟩
  unfold augM at post
  split at post
  · exact post.elim
  · rename_i d ne hd
    obtain ⟨v, hv, rv⟩ := rl.var i d hd ne
    refine ⟨v, hv, ?_⟩
    refine fstE (ta := ta) ha rl (lkS (N := N) rl) post fun ρ1 e h1 u H1 e1 r1 p1 post => ?_
    refine hr W ρ1 h1 H1 σ _ d e v u r1 (rv.ext e1) p1 ?_
    revert post
    have rl1 := rl.next e1 r1
    cases o d e h1 with
    | ok z h2 => exact fun post ρ2 z' H2 e2 r2 p2 => PostS.ext post e2 ρ2 _ H2 .refl ((rl1.next e2 r2).set i p2)
    | exc x h => exact fun post ρ' cls od H' x r q => post ρ' cls od σ H' x (rl1.next x r) q
    | stuck => exact fun post => post
  · exact post.elim
def ipintM (g : Int → Int → Int) : MO := fun d e h => match d, e with
  | .int i, .int j => .ok (.int (g i j)) h
  | _, _ => .stuck
theorem ip_of {op : Operator} {g : Int → Int → Int} (h : PIp X op (ipI g)) : SIp X op (ipintM g) := ⟨_, h, fun W ρ ih H σ Q d e x y rl hd he post => by
  unfold ipintM at post
  split at post
  · cases hd
    cases he
    exact ⟨_, _, rfl, rfl, post ρ _ H .refl rl (.int _)⟩
  · exact post.elim⟩
theorem ipa : SIp X .Add (ipintM fun i j => i + j) := ip_of ip_add
theorem ips : SIp X .Sub (ipintM fun i j => i - j) := ip_of ip_sub

/-! ### while -/
def whileM (mt : MT) (mb : MS) : Nat → MS
  | 0, _, _ => .stuck
  | n + 1, env, h => (mt env h).thenS env fun b h => if b = true then (match mb env h with
    | .nx e h => whileM mt mb n e h
    | .ct e h => whileM mt mb n e h
    | .bk e h => .nx e h
    | .rt d h => .rt d h
    | .exc x e h => .exc x e h
    | .stuck => .stuck) else .nx env h
theorem st_while {c : Expr} {n : Nat} {mb : MS} (hp : PassesOwn (model X.prog X.w) X.A X.env X.xe) (C : ST xp X c mt) (B : SSs xp X b mb) : SS xp X (.While c b [] pos) (whileM mt mb n) := fun W tk => by
  obtain ⟨tc, pc, hc⟩ := C W tk
  obtain ⟨tb, pb, hb⟩ := B W tk
  refine ⟨_, ps_while hp pc pb, fun ρ0 env0 ih0 σ0 H0 N rl0 post0 => ?_⟩
  refine ⟨fun k σ H => ∃ ρ env ih, Rel X.K xp ρ env ih σ H ∧ PostS X.K X.mg W xp ρ H N (whileM mt mb k env ih), ⟨n, ρ0, env0, ih0, rl0, post0⟩, ?_⟩
  rintro k σ H ⟨ρ, env, ih, rl, post⟩
  cases k with
  | zero => exact post.elim
  | succ k =>
    refine fstT (ta := tc) hc rl (lkS (N := N) rl) post fun ρ1 c h1 H1 e1 r1 post => ?_
    have rl1 := rl.next e1 r1
    cases c with
    | false => exact post ρ1 σ H1 .refl rl1
    | true =>
      refine ⟨fun σ' H' => ∃ ρ env ih, Rel X.K xp ρ env ih σ' H' ∧ PostS X.K X.mg W xp ρ H' N (whileM mt mb k env ih), fun σ' H' h => ⟨k, Nat.lt_succ_self _, h⟩, ?_⟩
      refine hb _ _ _ _ _ _ rl1 ?_
      revert post
      show PostS X.K X.mg W xp ρ1 H1 N (match mb env h1 with
        | .nx e h => whileM mt mb k e h
        | .ct e h => whileM mt mb k e h
        | .bk e h => .nx e h
        | .rt d h => .rt d h
        | .exc x e h => .exc x e h
        | .stuck => .stuck) → _
      cases mb env h1 with
      | nx e h => exact fun post ρ2 σ2 H2 x2 r2 => ⟨ρ2, e, h, r2, PostS.ext post x2⟩
      | ct e h => exact fun post ρ2 σ2 H2 x2 r2 => ⟨ρ2, e, h, r2, PostS.ext post x2⟩
      | bk e h => exact fun post => post
      | rt d h => exact fun post => post
      | exc x e h => exact fun post => post
      | stuck => exact fun post => post

/-! ### for -/
inductive Src where
  | snap (ds : List D)
  | live (view : IH → Option (List D))
structure ItS (K : PySem.W.Frag) (J : It) (ρ0 : Rho) (H0 : Hp) (ds : List D) : Prop where
  go : ∀ i d ρ H ih, Ext ρ0 H0 ρ H → RelH K ρ ih H → ds[i]? = some d → J.go i H ∧ ∀ x H', J.yld i H x H' → Ext ρ H ρ H' ∧ RelH K ρ ih H' ∧ RepV K ρ H' d x
  stop : ∀ ρ H, Ext ρ0 H0 ρ H → J.stop ds.length H
structure ItV (K : PySem.W.Frag) (J : It) (ρ0 : Rho) (H0 : Hp) (view : IH → Option (List D)) : Prop where
  go : ∀ i d ρ H ih ds, Ext ρ0 H0 ρ H → RelH K ρ ih H → view ih = some ds → ds[i]? = some d → J.go i H ∧ ∀ x H', J.yld i H x H' → Ext ρ H ρ H' ∧ RelH K ρ ih H' ∧ RepV K ρ H' d x
  stop : ∀ i ρ H ih ds, Ext ρ0 H0 ρ H → RelH K ρ ih H → view ih = some ds → ds[i]? = none → J.stop i H
def ItOk (K : PySem.W.Frag) (J : It) (ρ : Rho) (H : Hp) : Src → Prop
  | .snap ds => ItS K J ρ H ds
  | .live v => ItV K J ρ H v
abbrev MI := Ev → IH → R Src
def PostI (K : PySem.W.Frag) (mg : Str → Option Value) (W : WX) (ρ : Rho) (σ : L2.St) (H : Hp) (Q : It → Hp → Prop) : R Src → Prop
  | .ok s ih => ∀ ρ' J H', Ext ρ H ρ' H' → RelH K ρ' ih H' → ItOk K J ρ' H' s → Q J H'
  | .exc x ih => ∀ ρ' cls od H', Ext ρ H ρ' H' → RelH K ρ' ih H' → RepX K mg ρ' H' x cls od → W cls od σ H'
  | .stuck => False
def SI (xp : Option XP) (X : Cx) (tg iter : Expr) (m : MI) : Prop := ∀ W, Takes X W → ∃ t, PI X tg iter t ∧ ∀ ρ env ih σ H Q, Rel X.K xp ρ env ih σ H → PostI X.K X.mg W ρ σ H Q (m env ih) → t σ H Q
theorem PostI.ext {K : PySem.W.Frag} {mg : Str → Option Value} {W : WX} {ρ ρ' : Rho} {σ : L2.St} {H H' : Hp} {Q : It → Hp → Prop} : ∀ {r : R Src}, PostI K mg W ρ σ H Q r → Ext ρ H ρ' H' → PostI K mg W ρ' σ H' Q r
  | .ok _ _, h, x => fun _ v _ y => h _ v _ (x.trans y)
  | .exc _ _, h, x => fun _ _ _ _ y => h _ _ _ _ (x.trans y)
  | .stuck, h, _ => h
theorem lkI {K : PySem.W.Frag} {mg : Str → Option Value} {W : WX} {ρ : Rho} {σ : L2.St} {H : Hp} {Q : It → Hp → Prop} : Lk K mg W σ ρ H (fun ρ H r => PostI K mg W ρ σ H Q r) .exc .stuck := ⟨fun _ _ _ _ _ h x => h.ext x, fun _ _ h => h, fun h => h⟩
/-- a turn -/
def turnM (g : MG) (mb : MS) (d : D) (env : Ev) (h : IH) (k : Ev → IH → RS) : RS := match g d env with
  | none => .stuck
  | some e => match mb e h with
    | .nx e h => k e h
    | .ct e h => k e h
    | .bk e h => .nx e h
    | .rt d h => .rt d h
    | .exc x e h => .exc x e h
    | .stuck => .stuck
def forS (g : MG) (mb : MS) : List D → MS
  | [], env, h => .nx env h
  | d :: ds, env, h => turnM g mb d env h (forS g mb ds)
def forV (g : MG) (mb : MS) (view : IH → Option (List D)) : Nat → Nat → MS
  | 0, _, _, _ => .stuck
  | n + 1, i, env, h => match view h with
    | none => .stuck
    | some ds => match ds[i]? with
      | none => .nx env h
      | some d => turnM g mb d env h (forV g mb view n (i + 1))
/-- the turns that a walk over what changes may take -/
def LOOP : Nat := 2 ^ 64
def forM (mi : MI) (g : MG) (mb : MS) : MS := fun env h => (mi env h).thenS env fun s h => match s with
  | .snap ds => forS g mb ds env h
  | .live v => forV g mb v LOOP 0 env h
/-- a turn, in the reading -/
theorem turn_ok {W : WX} {tg : TG} {tb : TS} {g : MG} {mb : MS} {ρ : Rho} {env : Ev} {ih : IH} {σ : L2.St} {H : Hp} {N : Ends} {d : D} {v : V} {k : Ev → IH → RS} {M : L2.St → Hp → Prop}
    (hg : ∀ ρ env ih σ H Q d v env', Rel X.K xp ρ env ih σ H → RepV X.K ρ H d v → g d env = some env' → (∀ σ', Rel X.K xp ρ env' ih σ' H → Q σ' H) → tg v σ H Q)
    (hb : ∀ ρ env ih σ H N, Rel X.K xp ρ env ih σ H → PostS X.K X.mg W xp ρ H N (mb env ih) → tb N σ H)
    (rl : Rel X.K xp ρ env ih σ H) (rv : RepV X.K ρ H d v) (post : PostS X.K X.mg W xp ρ H N (turnM g mb d env ih k))
    (hM : ∀ ρ' e h σ' H', Ext ρ H ρ' H' → Rel X.K xp ρ' e h σ' H' → PostS X.K X.mg W xp ρ' H' N (k e h) → M σ' H') :
    tg v σ H fun σ2 H2 => tb { N with nx := M, ct := M, bk := N.nx } σ2 H2 := by
  unfold turnM at post
  split at post
  · exact post.elim
  · rename_i e q
    refine hg ρ env ih σ H _ d v e rl rv q fun σ1 r1 => hb ρ e ih σ1 H _ r1 ?_
    revert post
    cases mb e ih with
    | nx e h => exact fun post ρ2 σ2 H2 x2 r2 => hM ρ2 e h σ2 H2 x2 r2 (PostS.ext post x2)
    | ct e h => exact fun post ρ2 σ2 H2 x2 r2 => hM ρ2 e h σ2 H2 x2 r2 (PostS.ext post x2)
    | bk e h => exact fun post => post
    | rt d h => exact fun post => post
    | exc x e h => exact fun post => post
    | stuck => exact fun post => post
theorem st_for {tg iter : Expr} {mi : MI} {g : MG} {mb : MS} (hp : PassesOwn (model X.prog X.w) X.A X.env X.xe) (hc : X.calm = true) (I : SI xp X tg iter mi) (G : SG xp X tg g) (B : SSs xp X b mb)
    (hs : ∀ x, foldedSetIterable iter X.env x = pure x := by intro _; rfl) : SS xp X (.For tg iter b [] pos) (forM mi g mb) := fun W tk => by
  obtain ⟨ti, pi, hi⟩ := I W tk
  obtain ⟨tg, pg, hg⟩ := G
  obtain ⟨tb, pb, hb⟩ := B W tk
  refine ⟨_, ps_for hp hc pi pg pb hs, fun ρ env ih σ H N rl post => ?_⟩
  refine hi ρ env ih σ H _ rl ?_
  have post : PostS X.K X.mg W xp ρ H N ((mi env ih).thenS env fun s h => match s with
    | .snap ds => forS g mb ds env h
    | .live v => forV g mb v LOOP 0 env h) := post
  revert post
  cases mi env ih with
  | exc x h => exact fun post ρ' cls od H' x r q => post ρ' cls od σ H' x (rl.next x r) q
  | stuck => exact fun post => post
  | ok s h1 =>
    cases s with
    | snap ds =>
      intro post ρ1 J H1 x1 r1 (it : ItS X.K J ρ1 H1 ds)
      have rl1 := rl.next x1 r1
      have post1 : PostS X.K X.mg W xp ρ1 H1 N (forS g mb ds env h1) := PostS.ext post x1
      refine ⟨fun i m σ H => i + m = ds.length ∧ ∃ ρ env ih, Ext ρ1 H1 ρ H ∧ Rel X.K xp ρ env ih σ H ∧ PostS X.K X.mg W xp ρ H N (forS g mb (ds.drop i) env ih), ⟨ds.length, by omega, ρ1, env, h1, .refl, rl1, by simpa using post1⟩, ?_⟩
      rintro i m σ H ⟨hm, ρ, env, ih, x, rl, post⟩
      cases q : ds[i]? with
      | none =>
        have hi := List.getElem?_eq_none_iff.mp q
        have ei : i = ds.length := by omega
        subst ei
        rw [List.drop_length] at post
        exact .inl ⟨it.stop ρ H x, post ρ σ H .refl rl⟩
      | some d =>
        obtain ⟨hi, ed⟩ := List.getElem?_eq_some_iff.mp q
        have hd : ds.drop i = d :: ds.drop (i + 1) := by rw [List.drop_eq_getElem_cons hi, ed]
        rw [hd] at post
        obtain ⟨go, yl⟩ := it.go i d ρ H ih x rl.hp q
        refine .inr ⟨go, fun σ H => ∃ ρ env ih, Ext ρ1 H1 ρ H ∧ Rel X.K xp ρ env ih σ H ∧ PostS X.K X.mg W xp ρ H N (forS g mb (ds.drop (i + 1)) env ih), fun σ' H' h => ⟨m - 1, by omega, by omega, h⟩, fun v H' y => ?_⟩
        obtain ⟨x2, r2, rv⟩ := yl v H' y
        refine turn_ok (tg := tg) (tb := tb) hg hb (rl.next x2 r2) rv (PostS.ext post x2) fun ρ' e h σ' H'' x3 r3 post => ?_
        exact ⟨ρ', e, h, (x.trans x2).trans x3, r3, post⟩
    | live v =>
      intro post ρ1 J H1 x1 r1 (it : ItV X.K J ρ1 H1 v)
      have rl1 := rl.next x1 r1
      have post1 : PostS X.K X.mg W xp ρ1 H1 N (forV g mb v LOOP 0 env h1) := PostS.ext post x1
      refine ⟨fun i m σ H => ∃ ρ env ih, Ext ρ1 H1 ρ H ∧ Rel X.K xp ρ env ih σ H ∧ PostS X.K X.mg W xp ρ H N (forV g mb v m i env ih), ⟨LOOP, ρ1, env, h1, .refl, rl1, post1⟩, ?_⟩
      rintro i m σ H ⟨ρ, env, ih, x, rl, post⟩
      cases m with
      | zero => exact post.elim
      | succ m =>
        unfold forV at post
        cases q : v ih with
        | none => rw [q] at post; exact post.elim
        | some ds =>
          rw [q] at post
          dsimp only at post
          cases q2 : ds[i]? with
          | none =>
            rw [q2] at post
            exact .inl ⟨it.stop i ρ H ih ds x rl.hp q q2, post ρ σ H .refl rl⟩
          | some d =>
            rw [q2] at post
            obtain ⟨go, yl⟩ := it.go i d ρ H ih ds x rl.hp q q2
            refine .inr ⟨go, fun σ H => ∃ ρ env ih, Ext ρ1 H1 ρ H ∧ Rel X.K xp ρ env ih σ H ∧ PostS X.K X.mg W xp ρ H N (forV g mb v m (i + 1) env ih), fun σ' H' h => ⟨m, Nat.lt_succ_self _, h⟩, fun y H' yy => ?_⟩
            obtain ⟨x2, r2, rv⟩ := yl y H' yy
            refine turn_ok (tg := tg) (tb := tb) hg hb (rl.next x2 r2) rv (PostS.ext post x2) fun ρ' e h σ' H'' x3 r3 post => ?_
            exact ⟨ρ', e, h, (x.trans x2).trans x3, r3, post⟩
end
end Z
/-! Z7: what is walked; subscripts; built-in functions. -/
namespace Z
open PySem PySem.Spec PyProof.Rows L2
section
variable {xp : Option XP} {X : Cx} {e : Expr} {es : List Expr} {ma mb : ME} {ms : MA} {p pos : Pos} {tg : Expr}
/-! ### walks -/
/-- the items of a list | tuple -/
def srcOf (h : IH) : D → Option Src
  | .tup ds => some (.snap ds)
  | .fz ds => some (.snap ds)
  | .ref n => match h[n]? with
    | some (.lst _) => some (.live fun h => match h[n]? with
      | some (.lst ds) => some ds
      | _ => none)
    | _ => none
  | _ => none
def seqI (ma : ME) : MI := fun env h => (ma env h).bind fun d h => match srcOf h d with
  | some s => .ok s h
  | none => .stuck
theorem itl_fz {K : PySem.W.Frag} {ρ : Rho} {H : Hp} {a : Addr} {vs : List V} {ds : List D} (h1 : SqF K H a vs) (h2 : RepL K ρ H ds vs) : ItS K (Itl K a) ρ H ds where
  go := fun i d ρ' H' ih x rl e => by
    obtain ⟨v, e1, r1⟩ := h2.get e
    refine ⟨⟨vs, v, (x.sqF h1).sq, e1⟩, fun y H2 ⟨eH, hy⟩ => ?_⟩
    subst eH
    have q := hy vs (x.sqF h1).sq
    rw [e1] at q
    cases q
    exact ⟨.refl, rl, r1.ext x⟩
  stop := fun ρ' H' x => ⟨vs, (x.sqF h1).sq, by rw [h2.length]; exact Nat.le_refl _⟩
theorem itt_tup {K : PySem.W.Frag} {ρ : Rho} {H : Hp} {a : Addr} {vs : List V} {ds : List D} (h1 : SqT K H a vs) (h2 : RepL K ρ H ds vs) : ItS K (Itt K a) ρ H ds where
  go := fun i d ρ' H' ih x rl e => by
    obtain ⟨v, e1, r1⟩ := h2.get e
    refine ⟨⟨vs, v, x.sqT h1, e1⟩, fun y H2 ⟨eH, hy⟩ => ?_⟩
    subst eH
    have q := hy vs (x.sqT h1)
    rw [e1] at q
    cases q
    exact ⟨.refl, rl, r1.ext x⟩
  stop := fun ρ' H' x => ⟨vs, x.sqT h1, by rw [h2.length]; exact Nat.le_refl _⟩
theorem itl_ref {K : PySem.W.Frag} {ρ : Rho} {H : Hp} {n : Nat} {a : Addr} (ha : ρ.as[n]? = some a) : ItV K (Itl K a) ρ H (fun h => match h[n]? with
      | some (.lst ds) => some ds
      | _ => none) where
  go := fun i d ρ' H' ih ds x rl ev e => by
    split at ev
    · rename_i ds' hn
      cases ev
      obtain ⟨vs, hv, rv⟩ := rl.lst (x.get ha) hn
      obtain ⟨v, e1, r1⟩ := rv.get e
      refine ⟨⟨vs, v, SqL.of hv, e1⟩, fun y H2 ⟨eH, hy⟩ => ?_⟩
      subst eH
      have q := hy vs (SqL.of hv)
      rw [e1] at q
      cases q
      exact ⟨.refl, rl, r1⟩
    · cases ev
  stop := fun i ρ' H' ih ds x rl ev e => by
    split at ev
    · rename_i ds' hn
      cases ev
      obtain ⟨vs, hv, rv⟩ := rl.lst (x.get ha) hn
      exact ⟨vs, SqL.of hv, by rw [← rv.length]; exact List.getElem?_eq_none_iff.mp e⟩
    · cases ev
def iOr (t u : TI) : TI := fun σ H R => t σ H R ∨ u σ H R
theorem pi_or {iter : Expr} {t u : TI} (h : PI X tg iter t) (g : PI X tg iter u) : PI X tg iter (iOr t u) := ⟨fun pins s σ H R I q => q.elim (h.run pins s σ H R I) (g.run pins s σ H R I)⟩
theorem si_seq (A : SE xp X e ma) : SI xp X tg e (seqI ma) := fun W tk => by
  obtain ⟨ta, pa, ha⟩ := A W tk
  refine ⟨_, pi_or (pi_list pa) (pi_tup pa), fun ρ env ih σ H Q rl post => ?_⟩
  -- by what the value is
  have post : PostI X.K X.mg W ρ σ H Q ((ma env ih).bind fun d h => match srcOf h d with
    | some s => .ok s h
    | none => .stuck) := post
  revert post
  cases q : ma env ih with
  | exc x h => intro post; exact .inl (ha ρ env ih σ H _ rl (by rw [q]; exact post))
  | stuck => exact fun post => post.elim
  | ok d h1 =>
    intro post
    cases hd : srcOf h1 d with
    | none => simp only [R.bind, R.bindG_ok, hd] at post; exact post.elim
    | some s =>
      simp only [R.bind, R.bindG_ok, hd] at post
      cases d with
      | tup ds =>
        cases hd
        refine .inr (ha ρ env ih σ H _ rl (by
          rw [q]
          intro ρ1 v H1 x1 r1 p1
          cases p1 with
          | @tup a vs _ h1 h2 => exact ⟨a, rfl, ⟨vs, h1⟩, post ρ1 _ H1 x1 r1 (itt_tup h1 h2)⟩))
      | fz ds =>
        cases hd
        refine .inl (ha ρ env ih σ H _ rl (by
          rw [q]
          intro ρ1 v H1 x1 r1 p1
          cases p1 with
          | @fz a vs _ h1 h2 => exact ⟨a, rfl, ⟨vs, h1.sq⟩, post ρ1 _ H1 x1 r1 (itl_fz h1 h2)⟩))
      | ref n =>
        have hd' : (match h1[n]? with
          | some (.lst _) => some (Src.live fun h => match h[n]? with
            | some (.lst ds) => some ds
            | _ => none)
          | _ => none) = some s := hd
        split at hd'
        · rename_i ds hn
          cases hd'
          refine .inl (ha ρ env ih σ H _ rl (by
            rw [q]
            intro ρ1 v H1 x1 r1 p1
            cases p1 with
            | @ref _ a h1 =>
              obtain ⟨vs, hv, rv⟩ := r1.lst h1 hn
              exact ⟨a, rfl, ⟨vs, SqL.of hv⟩, post ρ1 _ H1 x1 r1 (itl_ref h1)⟩))
        · cases hd'
      | _ => cases hd

/-! range -/
def rngD (lo : Int) (n : Nat) : List D := (List.range n).map fun (i : Nat) => D.int (lo + (i : Int))
theorem rngD_length {lo : Int} {n : Nat} : (rngD lo n).length = n := by simp [rngD]
theorem rngD_get {lo : Int} {n i : Nat} {d : D} (h : (rngD lo n)[i]? = some d) : i < n ∧ d = .int (lo + (i : Int)) := by
  unfold rngD at h
  rw [List.getElem?_map] at h
  obtain ⟨j, h1, h2⟩ := Option.map_eq_some_iff.mp h
  obtain ⟨h3, h4⟩ := List.getElem?_eq_some_iff.mp h1
  rw [List.getElem_range] at h4
  subst h4
  exact ⟨by simpa using h3, h2.symm⟩
theorem itr_ok {K : PySem.W.Frag} {ρ : Rho} {H : Hp} {lo : Int} {n : Nat} : ItS K (Itr lo n) ρ H (rngD lo n) where
  go := fun i d ρ' H' ih x rl e => by
    obtain ⟨hi, rfl⟩ := rngD_get e
    exact ⟨hi, fun y H2 ⟨eH, hy⟩ => by subst eH; subst hy; exact ⟨.refl, rl, .int _⟩⟩
  stop := fun ρ' H' x => by rw [rngD_length]; exact Nat.le_refl n
/-- (decided by choice: the kernel must not count to it) -/
def Rng (j : Int) : Prop := -(2 ^ 62) ≤ j ∧ j < 2 ^ 62
theorem rng_of {j : Int} (h0 : -(2 ^ 62) ≤ j) (h1 : j < 2 ^ 62) : Rng j := ⟨h0, h1⟩
noncomputable instance (j : Int) : Decidable (Rng j) := Classical.propDecidable _
noncomputable def rngI1 (ms : MA) : MI := fun env h => (ms env h).bind fun ds h => match ds with
  | [.int j] => if Rng j then .ok (.snap (rngD 0 j.toNat)) h else .stuck
  | _ => .stuck
noncomputable def rngI2 (ms : MA) : MI := fun env h => (ms env h).bind fun ds h => match ds with
  | [.int i, .int j] => if Rng i ∧ Rng j then .ok (.snap (rngD i (j - i).toNat)) h else .stuck
  | _ => .stuck
theorem si_range1 {a : Expr} (hg : Gl X "range") (hm : X.mg "range" = none) (A : SA xp X [a] ms) (hs : starEach [a] X.env = [(false, eval a X.env)] := by rfl) : SI xp X tg (.Call (.Name "range" p) [a] [] pos) (rngI1 ms) := fun W tk => by
  obtain ⟨ta, pa, ha⟩ := A W tk
  refine ⟨_, pi_range1 hg hm pa hs, fun ρ env ih σ H Q rl post => ?_⟩
  refine fstA (ta := ta) ha rl (lkI (Q := Q)) post fun ρ1 ds h1 vs H1 e1 r1 p1 post => ?_
  split at post
  · rename_i j
    cases p1 with
    | cons q1 t =>
      cases t
      cases q1
      split at post
      · rename_i c
        exact ⟨j, rfl, c.1, c.2, post ρ1 _ H1 .refl r1 itr_ok⟩
      · exact post.elim
  · exact post.elim
theorem si_range2 {a b : Expr} (hg : Gl X "range") (hm : X.mg "range" = none) (A : SA xp X [a, b] ms) (hs : starEach [a, b] X.env = [(false, eval a X.env), (false, eval b X.env)] := by rfl) (hs2 : starEach [b] X.env = [(false, eval b X.env)] := by rfl) : SI xp X tg (.Call (.Name "range" p) [a, b] [] pos) (rngI2 ms) := fun W tk => by
  obtain ⟨ta, pa, ha⟩ := A W tk
  refine ⟨_, pi_range2 hg hm pa hs hs2, fun ρ env ih σ H Q rl post => ?_⟩
  refine fstA (ta := ta) ha rl (lkI (Q := Q)) post fun ρ1 ds h1 vs H1 e1 r1 p1 post => ?_
  split at post
  · rename_i i j
    cases p1 with
    | cons q1 t =>
      cases t with
      | cons q2 t =>
        cases t
        cases q1
        cases q2
        split at post
        · rename_i c
          exact ⟨i, j, rfl, ⟨c.1.1, c.1.2, c.2.1, c.2.2⟩, post ρ1 _ H1 .refl r1 itr_ok⟩
        · exact post.elim
  · exact post.elim

/-! ### subscripts -/
/-- of a list, a tuple, a text -/
def ixM : MO := fun d e h => match e with
  | .int k => match d with
    | .tup ds => match atI ds k with
      | some x => .ok x h
      | none => .stuck
    | .fz ds => match atI ds k with
      | some x => .ok x h
      | none => .stuck
    | .ref n => match h[n]? with
      | some (.lst ds) => match atI ds k with
        | some x => .ok x h
        | none => .stuck
      | _ => .stuck
    | .str z => if z.length ≤ sizeLine then match atI z.cps.toList k with
      | some c => .ok (.str ⟨#[c]⟩) h
      | none => .stuck else .stuck
    | _ => .stuck
  | _ => .stuck
theorem RepL.at {K : PySem.W.Frag} {ρ : Rho} {H : Hp} {ds : List D} {vs : List V} {k : Int} {d : D} (r : RepL K ρ H ds vs) (h : atI ds k = some d) : ∃ v, atI vs k = some v ∧ RepV K ρ H d v := by
  unfold atI at h
  obtain ⟨j, h1, h2⟩ := Option.bind_eq_some_iff.mp h
  obtain ⟨v, h3, h4⟩ := r.get h2
  refine ⟨v, ?_, h4⟩
  unfold atI
  rw [← r.length, h1]
  exact h3
theorem s_ix {a b : Expr} (A : SE xp X a ma) (B : SE xp X b mb) (hs : PlainIx b := by exact fun _ _ => rfl) : SE xp X (.Subscript a b pos) (binM ixM ma mb) := fun W tk => by
  obtain ⟨ta, pa, ha⟩ := A W tk
  obtain ⟨tb, pb, hb⟩ := B W tk
  refine ⟨_, pe_ix ix_seq pa pb hs, fun ρ env ih σ H Q rl post => ?_⟩
  refine bin2 (ta := ta) (tb := tb) ha hb rl post fun ρ1 h1 H1 d e x y x1 r1 rd re post => ?_
  unfold ixM at post
  split at post
  · rename_i k
    cases re
    split at post
    · cases rd with
      | @tup a vs _ h1 h2 =>
        split at post
        · rename_i z q
          obtain ⟨v, hv, rv⟩ := h2.at q
          exact .inr (.inl ⟨a, vs, k, v, rfl, rfl, h1, hv, post ρ1 _ H1 .refl r1 rv⟩)
        · exact post.elim
    · cases rd with
      | @fz a vs _ h1 h2 =>
        split at post
        · rename_i z q
          obtain ⟨v, hv, rv⟩ := h2.at q
          exact .inl ⟨a, vs, k, v, rfl, rfl, h1.sq, hv, post ρ1 _ H1 .refl r1 rv⟩
        · exact post.elim
    · cases rd with
      | @ref _ a h1 =>
        split at post
        · rename_i ds hn
          obtain ⟨vs, hv, rl⟩ := r1.lst h1 hn
          split at post
          · rename_i z q
            obtain ⟨v, hv', rv⟩ := rl.at q
            exact .inl ⟨a, vs, k, v, rfl, rfl, SqL.of hv, hv', post ρ1 _ H1 .refl r1 rv⟩
          · exact post.elim
        · exact post.elim
    · cases rd
      split at post
      · rename_i c
        split at post
        · rename_i z q
          exact .inr (.inr ⟨_, k, z, rfl, rfl, c, q, post ρ1 _ H1 .refl r1 (.str _)⟩)
        · exact post.elim
      · exact post.elim
    · exact post.elim
  · exact post.elim

/-! ### built-in functions -/
def SC (X : Cx) (f : Value) (m : MF) : Prop := ∃ r, CallR X f r ∧ ∀ W ρ ih H σ Q ds vs, RelH X.K ρ ih H → RepL X.K ρ H ds vs → PostE X.K X.mg W ρ σ H Q (m ds ih) → r vs H Q
variable {x : Str} {F : MF} {id T : String}
theorem s_callB (c : SC X (.builtin id) F) (hg : Gl X x) (hm : X.mg x = none) (hv : bootBuiltins x = some (.builtin id)) (A : SA xp X (e :: es) ms) (hn : x ≠ "__name__" := by decide) (hdb : (x == ("__debug__" : Str)) = false := by decide)
    (he : starEach (e :: es) X.env = (false, eval e X.env) :: starEach es X.env := by rfl) (hpl : (backTo pos (starEach es X.env)).any (·.1) = false := by rfl) : SE xp X (.Call (.Name x p) (e :: es) [] pos) (callM F ms) := fun W tk => by
  obtain ⟨ta, pa, ha⟩ := A W tk
  obtain ⟨r, hc, hr⟩ := c
  refine ⟨_, pe_callB hc hg hm hv pa hn hdb he hpl, fun ρ env ih σ H Q rl post => ?_⟩
  exact fstA (ta := ta) ha rl (lkE (Q := Q)) post fun ρ1 ds h1 vs H1 e1 r1 p1 post => hr W ρ1 h1 H1 σ Q ds vs r1 p1 post
theorem s_callTy (c : SC X (.type T) F) (hg : Gl X x) (hm : X.mg x = none) (hv : bootBuiltins x = some (.type T)) (A : SA xp X (e :: es) ms) (hn : x ≠ "__name__" := by decide) (hdb : (x == ("__debug__" : Str)) = false := by decide)
    (he : starEach (e :: es) X.env = (false, eval e X.env) :: starEach es X.env := by rfl) (hpl : (backTo pos (starEach es X.env)).any (·.1) = false := by rfl) : SE xp X (.Call (.Name x p) (e :: es) [] pos) (callM F ms) := fun W tk => by
  obtain ⟨ta, pa, ha⟩ := A W tk
  obtain ⟨r, hc, hr⟩ := c
  refine ⟨_, pe_callTy hc hg hm hv pa hn hdb he hpl, fun ρ env ih σ H Q rl post => ?_⟩
  exact fstA (ta := ta) ha rl (lkE (Q := Q)) post fun ρ1 ds h1 vs H1 e1 r1 p1 post => hr W ρ1 h1 H1 σ Q ds vs r1 p1 post
/-- a built-in function of a module, by an imported name -/
theorem s_callF (c : SC X (.builtin id) F) (hg : Gl X x) (hm : X.mg x = some (.builtin id)) (A : SA xp X (e :: es) ms) (hdb : (x == ("__debug__" : Str)) = false := by decide)
    (he : starEach (e :: es) X.env = (false, eval e X.env) :: starEach es X.env := by rfl) (hpl : (backTo pos (starEach es X.env)).any (·.1) = false := by rfl) : SE xp X (.Call (.Name x p) (e :: es) [] pos) (callM F ms) := fun W tk => by
  obtain ⟨ta, pa, ha⟩ := A W tk
  obtain ⟨r, hc, hr⟩ := c
  refine ⟨_, pe_callBfun hc hg hm pa hdb he hpl, fun ρ env ih σ H Q rl post => ?_⟩
  exact fstA (ta := ta) ha rl (lkE (Q := Q)) post fun ρ1 ds h1 vs H1 e1 r1 p1 post => hr W ρ1 h1 H1 σ Q ds vs r1 p1 post
def lenF : MF := fun ds h => match ds with
  | [.tup xs] => .ok (.int xs.length) h
  | [.fz xs] => .ok (.int xs.length) h
  | [.str x] => if x.length ≤ sizeLine then .ok (.int x.length) h else .stuck
  | [.ref n] => match h[n]? with
    | some (.lst xs) => .ok (.int xs.length) h
    | _ => .stuck
  | _ => .stuck
theorem c_len : SC X (.builtin "len") lenF := ⟨_, call_len, fun W ρ ih H σ Q ds vs rl rv post => by
  unfold lenF at post
  split at post
  · cases rv with
    | cons q t =>
      cases t
      cases q with
      | @tup a vs xs h1 h2 =>
        refine ⟨_, _, rfl, .inr ⟨vs, h1, rfl⟩, ?_⟩
        rw [← h2.length]
        exact post ρ _ H .refl rl (.int _)
  · cases rv with
    | cons q t =>
      cases t
      cases q with
      | @fz a vs xs h1 h2 =>
        refine ⟨_, _, rfl, .inl ⟨vs, h1.sq, rfl⟩, ?_⟩
        rw [← h2.length]
        exact post ρ _ H .refl rl (.int _)
  · cases rv with
    | cons q t =>
      cases t
      cases q
      split at post
      · rename_i c
        exact ⟨_, _, rfl, ⟨c, rfl⟩, post ρ _ H .refl rl (.int _)⟩
      · exact post.elim
  · cases rv with
    | cons q t =>
      cases t
      cases q with
      | @ref n a h1 =>
        split at post
        · rename_i xs hn
          obtain ⟨vs, hv, r⟩ := rl.lst h1 hn
          refine ⟨_, _, rfl, .inl ⟨vs, SqL.of hv, rfl⟩, ?_⟩
          rw [← r.length]
          exact post ρ _ H .refl rl (.int _)
        · exact post.elim
  · exact post.elim⟩
def absF : MF := fun ds h => match ds with
  | [.int i] => .ok (.int (if i < 0 then -i else i)) h
  | _ => .stuck
theorem c_abs : SC X (.builtin "abs") absF := ⟨_, call_abs, fun W ρ ih H σ Q ds vs rl rv post => by
  unfold absF at post
  split at post
  · cases rv with
    | cons q t =>
      cases t
      cases q
      exact ⟨_, rfl, post ρ _ H .refl rl (.int _)⟩
  · exact post.elim⟩
def intF : MF := fun ds h => match ds with
  | [.int i] => .ok (.int i) h
  | [.bl b] => .ok (.int (if b then 1 else 0)) h
  | _ => .stuck
theorem c_int : SC X (.type "int") intF := ⟨_, call_int1, fun W ρ ih H σ Q ds vs rl rv post => by
  unfold intF at post
  split at post
  · cases rv with
    | cons q t =>
      cases t
      cases q
      exact .inl ⟨_, rfl, post ρ _ H .refl rl (.int _)⟩
  · cases rv with
    | cons q t =>
      cases t
      cases q
      exact .inr ⟨_, rfl, post ρ _ H .refl rl (.int _)⟩
  · exact post.elim⟩
def strF : MF := fun ds h => match ds with
  | [.int i] => if i.natAbs.log2 < 1920 then .ok (.str (toString i)) h else .stuck
  | _ => .stuck
theorem c_str : SC X (.type "str") strF := ⟨_, call_str_int, fun W ρ ih H σ Q ds vs rl rv post => by
  unfold strF at post
  split at post
  · cases rv with
    | cons q t =>
      cases t
      cases q
      split at post
      · rename_i c
        exact ⟨_, rfl, c, post ρ _ H .refl rl (.str _)⟩
      · exact post.elim
  · exact post.elim⟩
def gcdF : MF := fun ds h => match ds with
  | [.int i, .int j] => .ok (.int ((Nat.gcd i.natAbs j.natAbs : Nat) : Int)) h
  | _ => .stuck
theorem c_gcd : SC X (.builtin "math.gcd") gcdF := ⟨_, cr_gcd, fun W ρ ih H σ Q ds vs rl rv post => by
  unfold gcdF at post
  split at post
  · cases rv with
    | cons q t =>
      cases t with
      | cons q2 t =>
        cases t
        cases q
        cases q2
        exact ⟨_, _, rfl, post ρ _ H .refl rl (.int _)⟩
  · exact post.elim⟩
/-- list(x) -/
def listF : MF := fun ds h => match ds with
  | [.tup xs] => newL h xs
  | [.fz xs] => newL h xs
  | [.ref n] => match h[n]? with
    | some (.lst xs) => newL h xs
    | _ => .stuck
  | _ => .stuck
theorem c_list : SC X (.type "list") listF := ⟨_, call_list_of, fun W ρ ih H σ Q ds vs rl rv post => by
  unfold listF at post
  split at post
  · cases rv with
    | cons q t =>
      cases t
      cases q with
      | @tup a vs xs h1 h2 =>
        refine ⟨_, vs, rfl, .inr h1, fun l hl => ?_⟩
        obtain ⟨ρ', x', rl', rv⟩ := alloc rl hl h2
        exact post ρ' _ _ x' rl' rv
  · cases rv with
    | cons q t =>
      cases t
      cases q with
      | @fz a vs xs h1 h2 =>
        refine ⟨_, vs, rfl, .inl h1.sq, fun l hl => ?_⟩
        obtain ⟨ρ', x', rl', rv⟩ := alloc rl hl h2
        exact post ρ' _ _ x' rl' rv
  · cases rv with
    | cons q t =>
      cases t
      cases q with
      | @ref n a h1 =>
        split at post
        · rename_i xs hn
          obtain ⟨vs, hv, r⟩ := rl.lst h1 hn
          refine ⟨_, vs, rfl, .inl (SqL.of hv), fun l hl => ?_⟩
          obtain ⟨ρ', x', rl', rv⟩ := alloc rl hl r
          exact post ρ' _ _ x' rl' rv
        · exact post.elim
  · exact post.elim⟩

/-! ### isinstance -/
def tyN (h : IH) : D → Option String
  | .non => some "NoneType"
  | .bl _ => some "bool"
  | .int _ => some "int"
  | .str _ => some "str"
  | .tup _ => some "tuple"
  | .fz _ => some "list"
  | .ref n => match h[n]? with
    | some (.lst _) => some "list"
    | _ => none
  | .xv => none
theorem tyN_ok {K : PySem.W.Frag} {ρ : Rho} {H : Hp} {ih : IH} (rl : RelH K ρ ih H) {d : D} {v : V} {n : String} (q : tyN ih d = some n) (r : RepV K ρ H d v) : TyX K H v (.type n) := by
  cases r with
  | non => cases q; exact .base .non
  | bl b => cases q; exact .base (.bl b)
  | int i => cases q; exact .base (.int i)
  | str x => cases q; exact .base (.str x)
  | tup h1 h2 =>
    cases q
    rcases h1 with (h1 | ⟨o, h1⟩) | ⟨o, its, k, h1, h3, _⟩
    · exact .base (.tup h1)
    · exact .fTuple h1
    · exact .kTuple h1 h3
  | fz h1 h2 =>
    cases q
    rcases h1 with ⟨o, h1⟩ | ⟨o, its, k, h1, h3, _⟩
    · exact .base (.frz h1)
    · exact .kList h1 h3
  | @ref m a h1 =>
    have q' : (match ih[m]? with
      | some (.lst _) => some "list"
      | _ => none) = some n := q
    split at q'
    · rename_i ds hn
      cases q'
      obtain ⟨vs, hv, _⟩ := rl.lst h1 hn
      exact .base (.lst hv)
    · cases q'
/-- isinstance(e, T), T a built-in class -/
def isiM (T : String) (ma : ME) : ME := fun env h => (ma env h).bind fun d h => match (tyN h d).bind fun n => kitB n T with
  | some b => .ok (.bl b) h
  | none => .stuck
theorem s_isi {y : Str} {p2 : Pos} (hg : Gl X "isinstance") (hm : X.mg "isinstance" = none) (hg2 : Gl X y) (hm2 : X.mg y = none) (hv2 : bootBuiltins y = some (.type T)) (A : SE xp X e ma)
    (hv : bootBuiltins "isinstance" = some (.builtin "isinstance") := by decide +kernel) (hn2 : y ≠ "__name__" := by decide) (hdb2 : (y == ("__debug__" : Str)) = false := by decide)
    (hs1 : starEach [e, .Name y p2] X.env = (false, eval e X.env) :: starEach [.Name y p2] X.env := by rfl) (hs2 : starEach [.Name y p2] X.env = (false, eval (.Name y p2) X.env) :: starEach [] X.env := by rfl)
    (hpl : (backTo pos (starEach [.Name y p2] X.env)).any (·.1) = false := by rfl) : SE xp X (.Call (.Name "isinstance" p) [e, .Name y p2] [] pos) (isiM T ma) := fun W tk => by
  obtain ⟨ta, pa, ha⟩ := A W tk
  refine ⟨_, pe_callB call_isi hg hm hv (pa_cons pa (pa_cons (pe_bltn (v := .ty T) hg2 hm2 hv2 rfl hn2 hdb2) pa_nil hs2) hs1) (by decide) (by decide) hs1 hpl, fun ρ env ih σ H Q rl post => ?_⟩
  refine fstE (ta := ta) ha rl (lkE (Q := Q)) post fun ρ1 d h1 v H1 e1 r1 p1 post => ?_
  split at post
  · rename_i b q
    obtain ⟨n, q1, q2⟩ := Option.bind_eq_some_iff.mp q
    exact ⟨v, .ty T, .type n, .type T, b, rfl, .ty T, tyN_ok r1 q1 p1, kit_ty q2, post ρ1 _ H1 .refl r1 (.bl _)⟩
  · exact post.elim
end
end Z
/-! Z8: a def's promise from its body; exceptions. -/
namespace Z
open PySem PySem.Spec PyProof.Rows L2
def finM : RS → R D
  | .nx _ h => .ok .non h
  | .rt d h => .ok d h
  | .exc x _ h => .exc x h
  | _ => .stuck
noncomputable def defM (n : Nat) (m : MS) : MF := fun ds h => trunc h (finM (m (ds.map some ++ List.replicate (n - ds.length) none) h))
section
variable {P : Program} {w : World} {K : PySem.W.Frag} {mg : Str → Option Value} {base : Heap} {ρ : Rho} {H : Hp} {ih : IH}
theorem start_rel {ds : List D} {vs : List V} {N : List Str} {n : Nat} (rl : RelH K ρ ih H) (rv : RepL K ρ H ds vs) (hn : n = N.length) : Rel K none ρ (ds.map some ++ List.replicate (n - ds.length) none) ih (L2.start N vs) H := by
  subst hn
  have hl := rv.length
  refine ⟨rl, by simp [L2.start, hl], fun i d e ne => ?_, fun i e => ?_, fun p e => by cases e⟩
  · by_cases hi : i < ds.length
    · rw [List.getElem?_append_left (by simpa using hi), List.getElem?_map] at e
      obtain ⟨d', e1, e2⟩ := Option.map_eq_some_iff.mp e
      cases e2
      obtain ⟨v, e3, e4⟩ := rv.get e1
      refine ⟨v, ?_, e4⟩
      unfold L2.start
      rw [List.getElem?_append_left (by simpa [← hl] using hi), List.getElem?_map, e3]
      rfl
    · rw [List.getElem?_append_right (by simpa using hi)] at e
      have := List.mem_of_getElem? e
      rw [List.mem_replicate] at this
      cases this.2
  · by_cases hi : i < ds.length
    · rw [List.getElem?_append_left (by simpa using hi), List.getElem?_map] at e
      obtain ⟨d', e1, e2⟩ := Option.map_eq_some_iff.mp e
      cases e2
      obtain ⟨v, e3, e4⟩ := rv.get e1
      cases e4
    · rw [List.getElem?_append_right (by simpa using hi)] at e
      have := List.mem_of_getElem? e
      rw [List.mem_replicate] at this
      cases this.2
/-- a def does what its body's meaning says -/
theorem fn_sim {x qual : Str} {params : Arguments} {body : List Stmt} {scope : Scope} {f : Addr} {fd : FuncData} {N ps : List Str} {k n : Nat} {m : MS} (F : FunD K x qual params body scope [] [] f fd) (S : FnScope N ps scope) (hn : n = N.length)
    (B : ∀ (cdv : Value) (A : Around) (outer : List PySem.Env) (s : Shared) (H : Hp) (E : XK), Room k (A.deeper (envOfC qual scope s.heap.objs.size f cdv)) → SSs none (cxOf (L2.CX P w) P w K mg base N qual scope f cdv A outer s H E) body m) :
    FnOk P w K mg base (L2.CX P w) (k + 1) f fd ps (spF K mg ps.length (defM n m)) := by
  refine F.ok S (fun vs H Q E h => h.1) (fun cdv A outer s H vs Q E hr h => ?_)
  obtain ⟨hl, ρ, ds, ih, rl, rv, post⟩ := h
  obtain ⟨t, pt, ht⟩ := B cdv A outer s H E hr (fun cls od _ H => E cls od H) (takes_of rfl rfl rfl rfl)
  refine ⟨t, pt, ht ρ _ ih (L2.start N vs) H _ (start_rel rl rv hn) ?_⟩
  have post := trunc_post rl post
  revert post
  show PostE K mg _ ρ [] H Q (finM (m _ ih)) → PostS K mg _ none ρ H _ (m _ ih)
  cases m (ds.map some ++ List.replicate (n - ds.length) none) ih with
  | nx e h => exact fun post ρ' σ' H' x r => post ρ' .non H' x r.hp .non
  | rt d h => exact fun post => post
  | exc x e h => exact fun post ρ' cls od σ' H' y r q => post ρ' cls od H' y r.hp q
  | bk e h => exact fun post => post.elim
  | ct e h => exact fun post => post.elim
  | stuck => exact fun post => post.elim
theorem fs_of {x qual : Str} {params : Arguments} {body : List Stmt} {scope : Scope} {f : Addr} {fd : FuncData} {N ps : List Str} {k n : Nat} {m : MS} (F : FunD K x qual params body scope [] [] f fd) (S : FnScope N ps scope) (hn : n = N.length) (hm : mg x = some (.ref f)) (hb : Binds K fd ps [])
    (B : ∀ (cdv : Value) (A : Around) (outer : List PySem.Env) (s : Shared) (H : Hp) (E : XK), Room k (A.deeper (envOfC qual scope s.heap.objs.size f cdv)) → SSs none (cxOf (L2.CX P w) P w K mg base N qual scope f cdv A outer s H E) body m) :
    FS P w K mg base x (k + 1) ps.length (defM n m) := ⟨f, fd, ps, hm, F.kp, hb, fn_sim F S hn B⟩
end

/-! ### making an exception -/
/-- __init__ stores its arguments in the fields fs -/
def spI (C : Addr) (fs : List Str) : Sp := fun vs H Q _ => ∃ (a : Addr) (ws : List V), vs = .ref a :: ws ∧ ws.length = fs.length ∧ H a = some (exo a C none) ∧
  ∀ dx H', H dx = none → dx ≠ a → H' a = some (exo a C (some dx)) → H' dx = some (exd dx (fs.zip ws).reverse) → (∀ b, b ≠ a → b ≠ dx → H' b = H b) → Q .non H'
/-- the class named x is an exception of fields fs -/
structure XC (P : Program) (w : World) (K : PySem.W.Frag) (mg : Str → Option Value) (base : Heap) (x : Str) (k : Nat) (fs : List Str) : Prop where
  ex : ∃ (C fI : Addr) (fd : FuncData) (ps : List Str), C = He.ga K x ∧ mg x = some (.ref C) ∧ OexC K C ∧ PySem.W.findIn K (.ref C) "__init__" = some (some (.ref fI)) ∧ PySem.W.typeIn K (.ref fI) = some (.type "function") ∧
    Binds K fd ps [] ∧ FnOk P w K mg base (L2.CX P w) k fI fd ps (spI C fs)
section
variable {K : PySem.W.Frag} {ρ : Rho} {H : Hp}
theorem RepF.append : ∀ {a c : List (Str × D)} {b d : List (Str × V)}, RepF K ρ H a b → RepF K ρ H c d → RepF K ρ H (a ++ c) (b ++ d)
  | _, _, _, _, .nil, s => s
  | _, _, _, _, .cons r t, s => .cons r (RepF.append t s)
theorem RepF.reverse : ∀ {a : List (Str × D)} {b : List (Str × V)}, RepF K ρ H a b → RepF K ρ H a.reverse b.reverse
  | _, _, .nil => .nil
  | _, _, .cons r t => by
    rw [List.reverse_cons, List.reverse_cons]
    exact (RepF.reverse t).append (.cons r .nil)
theorem RepF.zip : ∀ (fs : List Str) {ds : List D} {vs : List V}, RepL K ρ H ds vs → RepF K ρ H (fs.zip ds) (fs.zip vs)
  | [], _, _, _ => .nil
  | _ :: _, _, _, .nil => .nil
  | _ :: fs, _, _, .cons r t => .cons r (RepF.zip fs t)
end
section
variable {xp : Option XP} {X : Cx} {e : Expr} {es : List Expr} {ms : MA} {x : Str} {k j : Nat} {fs : List Str} {p pos pos2 : Pos}
def raiseM (x : Str) (fs : List Str) (ms : MA) : MS := fun env h => (ms env h).thenS env fun ds h => if ds.length = fs.length ∧ fs.length ≤ 900 then .exc ⟨x, (fs.zip ds).reverse⟩ env h else .stuck
theorem st_raise (hc : X.calm = true) (c : XC X.prog X.w X.K X.mg X.base x k fs) (hr : Room j X.A) (hk : k + 1 ≤ j) (hg : Gl X x) (A : SA xp X (e :: es) ms)
    (hdb : (x == ("__debug__" : Str)) = false := by decide) (he : starEach (e :: es) X.env = (false, eval e X.env) :: starEach es X.env := by rfl) (hpl : (backTo pos (starEach es X.env)).any (·.1) = false := by rfl) :
    SS xp X (.Raise (some (.Call (.Name x p) (e :: es) [] pos)) none pos2) (raiseM x fs ms) := fun W tk => by
  obtain ⟨ta, pa, ha⟩ := A W tk
  obtain ⟨C, fI, fd, ps, eC, hm, T, iC, tI, hb, hF⟩ := c.ex
  refine ⟨_, ps_raise hc tk (pmk_oex T iC tI hF (hr.mono hk) hb .nil passL hg hm pa hdb he hpl), fun ρ env ih σ H N rl post => ?_⟩
  refine fstA (ta := ta) ha rl (lkS (N := N) rl) post fun ρ1 ds h1 vs H1 e1 r1 p1 post => ?_
  split at post
  · rename_i c
    have hl := p1.length
    refine ⟨by omega, fun a hna => ?_⟩
    refine ⟨a, vs, by rw [List.append_nil], by omega, upd_same, fun dx H' hdx hne h2 h3 h4 => ⟨rfl, dx, _, h2, h3, ?_, ?_⟩⟩
    · rw [upd_ne hne] at hdx; exact hdx
    · have hdx1 : H1 dx = none := by rw [upd_ne hne] at hdx; exact hdx
      have ag : ∀ b, b ≠ dx → upd (del H' a) dx (.xd (fs.zip vs).reverse) b = H1 b := fun b hb => by
        rw [upd_ne hb]
        by_cases hba : b = a
        · rw [hba, del_same, hna]
        · rw [del_ne hba, h4 b hba hb, upd_ne hba]
      have x2 : Ext ρ1 H1 ρ1 (upd (del H' a) dx (.xd (fs.zip vs).reverse)) :=
        ⟨List.prefix_refl _, fun _ z => .inl z, fun b o q _ => by rw [ag b (ne_of_none q hdx1)]; exact q, fun b o q => by rw [ag b (ne_of_none q hdx1)]; exact q,
          fun b o u q => by rw [ag b (ne_of_none q hdx1)]; exact q, fun b o q => by rw [ag b (ne_of_none q hdx1)]; exact q⟩
      have r2 : RelH X.K ρ1 h1 (upd (del H' a) dx (.xd (fs.zip vs).reverse)) := ⟨r1.len, r1.nd, fun n b o q1 q2 => by
        obtain ⟨u, hu⟩ := r1.ne_none (List.mem_of_getElem? q1)
        exact (r1.obj n b o q1 q2).ext x2 (ag b (ne_of_none hu hdx1))⟩
      exact post ρ1 (.ref C) (some dx) σ _ x2 ((rl.next e1 r1).next x2 r2) ⟨dx, _, by rw [eC], rfl, upd_same, ((RepF.zip fs p1).reverse).ext x2⟩
  · exact post.elim

/-! ### try -/
def clr : Option D → Option D
  | some .xv => none
  | o => o
theorem Rel.leave {K : PySem.W.Frag} {p : XP} {ρ : Rho} {env : Ev} {ih : IH} {σ : L2.St} {H : Hp} (r : Rel K (some p) ρ env ih σ H) : Rel K none ρ (env.map clr) ih σ H := by
  refine ⟨r.hp, by simp [r.len], fun i d e ne => ?_, fun i e => ?_, fun p e => by cases e⟩
  · rw [List.getElem?_map] at e
    obtain ⟨o, e1, e2⟩ := Option.map_eq_some_iff.mp e
    unfold clr at e2
    split at e2
    · cases e2
    · subst e2
      exact r.var i d e1 ne
  · rw [List.getElem?_map] at e
    obtain ⟨o, e1, e2⟩ := Option.map_eq_some_iff.mp e
    unfold clr at e2
    split at e2
    · cases e2
    · rename_i z
      exact absurd e2 (by intro q; exact z q)
theorem Rel.enter {K : PySem.W.Frag} {mg : Str → Option Value} {a : Addr} {cls : Value} {od : Option Addr} {x : Exc} {ρ : Rho} {env : Ev} {ih : IH} {σ : L2.St} {H : Hp} (r : Rel K none ρ env ih σ H) (q : RepX K mg ρ H x cls od) : Rel K (some ⟨a, cls, od, x⟩) ρ env ih σ H :=
  ⟨r.hp, r.len, r.var, fun i e => (by obtain ⟨p, z, _⟩ := r.xvar i e; cases z), fun p e => (by cases e; exact ⟨mg, q⟩)⟩
theorem Rel.bindx {K : PySem.W.Frag} {p : XP} {ρ : Rho} {env : Ev} {ih : IH} {σ : L2.St} {H : Hp} (r : Rel K (some p) ρ env ih σ H) (i : Nat) : Rel K (some p) ρ (env.set i (some .xv)) ih (σ.set i (some (.ref p.a))) H := by
  refine ⟨r.hp, by simp [r.len], fun j e h ne => ?_, fun j h => ?_, r.xok⟩
  · rcases get_set h with ⟨rfl, e1, hi⟩ | ⟨hj, h⟩
    · cases e1; exact absurd rfl ne
    · rw [List.getElem?_set_ne hj]
      exact r.var j e h ne
  · rcases get_set h with ⟨rfl, e1, hi⟩ | ⟨hj, h⟩
    · exact ⟨p, rfl, List.getElem?_set_self (by rw [← r.len]; exact hi)⟩
    · rw [List.getElem?_set_ne hj]
      exact r.xvar j h
def unsetO {α : Type} (i : Option Nat) (l : List (Option α)) : List (Option α) := match i with
  | some i => l.set i none
  | none => l
/-- behind an except suite: the slot i (if any) is empty -/
def endX (i : Option Nat) : RS → RS
  | .nx e h => .nx ((unsetO i e).map clr) h
  | .bk e h => .bk ((unsetO i e).map clr) h
  | .ct e h => .ct ((unsetO i e).map clr) h
  | .rt d h => .rt d h
  | _ => .stuck
def begX (i : Option Nat) (e : Ev) : Ev := match i with
  | some i => e.set i (some .xv)
  | none => e
/-- try with clauses: a class's name, the suite -/
def catchM (sub : Str → Str → Option Bool) (i : Option Nat) : List (Str × (Exc → MS)) → Exc → Ev → IH → RS
  | [], x, e, h => .exc x e h
  | (c, mh) :: hs, x, e, h => match sub x.cls c with
    | some true => endX i (mh x (begX i e) h)
    | some false => catchM sub i hs x e h
    | none => .stuck
def tryM (sub : Str → Str → Option Bool) (i : Option Nat) (mb : MS) (hs : List (Str × (Exc → MS))) : MS := fun env h => match mb env h with
  | .exc x e h => catchM sub i hs x e h
  | r => r
/-- the reading that a meaning has -/
def canS (K : PySem.W.Frag) (mg : Str → Option Value) (W : WX) (xp : Option XP) (m : MS) : TS := fun D σ H => ∃ ρ env ih, Rel K xp ρ env ih σ H ∧ PostS K mg W xp ρ H D (m env ih)
theorem SSs.can {xp : Option XP} {X : Cx} {st : List Stmt} {m : MS} {W : WX} (S : SSs xp X st m) (tk : Takes X W) : PSs X st (canS X.K X.mg W xp m) := by
  obtain ⟨t, pt, ht⟩ := S W tk
  exact ⟨fun pins s σ H D I ⟨ρ, env, ih, rl, post⟩ => pt.run pins s σ H D I (ht ρ env ih σ H D rl post)⟩
def canH (K : PySem.W.Frag) (mg : Str → Option Value) (mh : Exc → MS) : Addr → Value → Option Addr → TS := fun a cls d D σ H => ∃ x, canS K mg (fun _ _ _ _ => False) (some ⟨a, cls, d, x⟩) (mh x) D σ H
variable {n : Str} {i : Nat} {body suite : List Stmt} {b₀ : Stmt} {np pos' : Pos} {mb : MS} {mh : Exc → MS} {sub : Str → Str → Option Bool}
/-- a suite, whatever the exception -/
def SX (X : Cx) (suite : List Stmt) (mh : Exc → MS) : Prop := ∀ (a : Addr) (oe : Obj) (cls : Value) (d : Option Addr) (pn : List (Addr × Obj)) (x : Exc), Zc cls d oe → (∃ vs, oe.data = .fields vs) → SSs (some ⟨a, cls, d, x⟩) (X.suite a ((a, oe) :: pn)) suite (mh x)
/-- a body, whatever wish -/
def SB (X : Cx) (body : List Stmt) (mb : MS) : Prop := ∀ (pn : List (Addr × Obj)) (xe : Value → Shared → Prop), PassesOwn (model X.prog X.w) X.A X.env xe → SSs none (X.tr pn xe) body mb
theorem SX.can {X : Cx} (S : SX X suite mh) {a : Addr} {oe : Obj} {cls : Value} {d : Option Addr} {pn : List (Addr × Obj)} (hz : Zc cls d oe) (hf : ∃ vs, oe.data = .fields vs) : PSs (X.suite a ((a, oe) :: pn)) suite (canH X.K X.mg mh a cls d) :=
  ⟨fun pins s σ H D I ⟨x, q⟩ => ((S a oe cls d pn x hz hf).can (W := fun _ _ _ _ => False) takes0).run pins s σ H D I q⟩
theorem endX_post {K : PySem.W.Frag} {mg : Str → Option Value} {W : WX} {ρ : Rho} {H : Hp} {D : Ends} {p : XP} {i : Option Nat} {D' : Ends} (hn : ∀ σ H, D'.nx σ H ↔ D.nx (unsetO i σ) H) (hb : ∀ σ H, D'.bk σ H ↔ D.bk (unsetO i σ) H)
    (hc : ∀ σ H, D'.ct σ H ↔ D.ct (unsetO i σ) H) (hr : ∀ v H, D'.rt v H ↔ D.rt v H) : ∀ {r : RS}, PostS K mg W none ρ H D (endX i r) → PostS K mg (fun _ _ _ _ => False) (some p) ρ H D' r := by
  have un : ∀ {ρ' : Rho} {e : Ev} {h : IH} {σ' : L2.St} {H' : Hp}, Rel K (some p) ρ' e h σ' H' → Rel K none ρ' ((unsetO i e).map clr) h (unsetO i σ') H' := fun r => by
    cases i with
    | none => exact r.leave
    | some i => exact (r.unset i).leave
  intro r post
  cases r with
  | nx e h => exact fun ρ' σ' H' x r => (hn _ _).mpr (post ρ' _ H' x (un r))
  | bk e h => exact fun ρ' σ' H' x r => (hb _ _).mpr (post ρ' _ H' x (un r))
  | ct e h => exact fun ρ' σ' H' x r => (hc _ _).mpr (post ρ' _ H' x (un r))
  | rt d h => exact fun ρ' v H' x r q => (hr _ _).mpr (post ρ' v H' x r q)
  | exc x e h => exact post.elim
  | stuck => exact post.elim
theorem st_try_as (hs : X.stack = X.env :: X.outer) (hf : X.env.frame = some X.env.locals) (hN : X.N.Nodup) (hi : X.N[i]? = some n) (hln : X.env.kindOf n = some .local) {c : Value} (hc : Names X x c) (sb : ∀ z b, sub z x = some b → PySem.W.exmOne X.K (.ref (He.ga X.K z)) c = some b)
    (B : SB X body mb) (S : SX X (b₀ :: suite) mh) : SS none X (.Try body [.ExceptHandler (some (.Name x np)) (some n) (b₀ :: suite) pos'] [] [] pos) (tryM sub (some i) mb [(x, mh)]) := fun W tk => by
  refine ⟨_, ps_try_as (i := i) (tb := fun W => canS X.K X.mg W none mb) (ts := canH X.K X.mg mh) (Wout := W) hs hf hN hi hln hc tk (fun W pn xe tk hp => (B pn xe hp).can (X := X.tr pn xe) tk) (fun a oe cls d pn hz hf => S.can hz hf), fun ρ env ih σ H D rl post => ?_⟩
  refine ⟨ρ, env, ih, rl, ?_⟩
  unfold tryM at post
  revert post
  cases mb env ih with
  | nx e h => exact fun post => post
  | bk e h => exact fun post => post
  | ct e h => exact fun post => post
  | rt d h => exact fun post => post
  | stuck => exact fun post => post
  | exc y e h =>
    intro post ρ' cls od σ' H' x1 r1 q
    have post : PostS X.K X.mg W none ρ' H' D (match sub y.cls x with
      | some true => endX (some i) (mh y (begX (some i) e) h)
      | some false => .exc y e h
      | none => .stuck) := PostS.ext post x1
    obtain ⟨dd, vs, e2, e3, e4, e5⟩ := id q
    subst e2
    cases hsb : sub y.cls x with
    | none => rw [hsb] at post; exact post.elim
    | some b =>
      rw [hsb] at post
      have hex := sb y.cls b hsb
      cases b with
      | true => exact ⟨true, hex, fun _ a ha => ⟨y, ρ', _, h, (r1.enter q).bindx i, endX_post (i := some i) (D := D) (W := W) (D' := { nx := fun σ' H' => D.nx (σ'.set i none) H', rt := D.rt, bk := fun σ' H' => D.bk (σ'.set i none) H', ct := fun σ' H' => D.ct (σ'.set i none) H' }) (fun _ _ => Iff.rfl) (fun _ _ => Iff.rfl) (fun _ _ => Iff.rfl) (fun _ _ => Iff.rfl) post⟩, fun z => Bool.noConfusion z⟩
      | false => exact ⟨false, hex, fun z => Bool.noConfusion z, fun _ => post ρ' _ od σ' H' .refl r1 q⟩
theorem st_try_only (hs : X.stack = X.env :: X.outer) (hf : X.env.frame = some X.env.locals) {c : Value} (hc : Names X x c) (sb : ∀ z b, sub z x = some b → PySem.W.exmOne X.K (.ref (He.ga X.K z)) c = some b)
    (B : SB X body mb) (S : SX X (b₀ :: suite) mh) : SS none X (.Try body [.ExceptHandler (some (.Name x np)) none (b₀ :: suite) pos'] [] [] pos) (tryM sub none mb [(x, mh)]) := fun W tk => by
  refine ⟨_, ps_try_only (tb := fun W => canS X.K X.mg W none mb) (ts := canH X.K X.mg mh) (Wout := W) hs hf hc tk (fun W pn xe tk hp => (B pn xe hp).can (X := X.tr pn xe) tk) (fun a oe cls d pn hz hf => S.can hz hf), fun ρ env ih σ H D rl post => ?_⟩
  refine ⟨ρ, env, ih, rl, ?_⟩
  unfold tryM at post
  revert post
  cases mb env ih with
  | nx e h => exact fun post => post
  | bk e h => exact fun post => post
  | ct e h => exact fun post => post
  | rt d h => exact fun post => post
  | stuck => exact fun post => post
  | exc y e h =>
    intro post ρ' cls od σ' H' x1 r1 q
    have post : PostS X.K X.mg W none ρ' H' D (match sub y.cls x with
      | some true => endX none (mh y (begX none e) h)
      | some false => .exc y e h
      | none => .stuck) := PostS.ext post x1
    obtain ⟨dd, vs, e2, e3, e4, e5⟩ := id q
    subst e2
    cases hsb : sub y.cls x with
    | none => rw [hsb] at post; exact post.elim
    | some b =>
      rw [hsb] at post
      have hex := sb y.cls b hsb
      cases b with
      | true => exact ⟨true, hex, fun _ a ha => ⟨y, ρ', _, h, r1.enter q, endX_post (i := none) (D := D) (W := W) (D' := D) (fun _ _ => Iff.rfl) (fun _ _ => Iff.rfl) (fun _ _ => Iff.rfl) (fun _ _ => Iff.rfl) post⟩, fun z => Bool.noConfusion z⟩
      | false => exact ⟨false, hex, fun z => Bool.noConfusion z, fun _ => post ρ' _ od σ' H' .refl r1 q⟩
end
end Z
/-! Z9: what the top has made of the exceptions' classes; what a suite reads of its exception. -/
namespace Z
open PySem PySem.Spec PyProof.Rows L2
/-! ### a class of exceptions, by looking -/
def oexCls (K : PySem.W.Frag) (C : Addr) : Bool := match K.lookup C with
  | some ⟨.type "type", _, .cls cd, sl⟩ => (match cd.mro, sl.toList with
    | .ref C' :: bm, [_, _, _, _, some (.builtin n), _] => C' == C && n == "ValueError.__new__" && !cd.hasDel && cd.hasDict && PySem.HandSPX.refsVE bm
    | _, _ => false)
  | _ => false
theorem oexCls_ok {K : PySem.W.Frag} {C : Addr} (q : oexCls K C = true) : ∃ nm q N bs bm sn sub ab col dd k0 k1 k2 k3 k5, K.lookup C = some (excClassObj nm q C N bs bm true sn sub ab col dd k0 k1 k2 k3 k5 "ValueError.__new__") ∧ PySem.HandSPX.refsVE bm = true := by
  unfold oexCls at q
  split at q
  · rename_i dd cd sl ho
    split at q
    · rename_i C' bm k0 k1 k2 k3 n k5 hm hs
      simp only [Bool.and_eq_true, beq_iff_eq, Bool.not_eq_true'] at q
      obtain ⟨⟨⟨⟨rfl, rfl⟩, hdel⟩, hd⟩, ht⟩ := q
      obtain ⟨nm, bs, mro, ns, qn, hd', sn, sub, ab, col, del⟩ := cd
      dsimp only at hm hdel hd
      subst hm hdel hd
      have hsl : sl = #[k0, k1, k2, k3, some (.builtin "ValueError.__new__"), k5] := by
        obtain ⟨l⟩ := sl
        simp only at hs
        rw [hs]
      subst hsl
      exact ⟨nm, qn, ns, bs, bm, sn, sub, ab, col, dd, k0, k1, k2, k3, k5, ho, ht⟩
    · cases q
  · cases q
def dB {α : Type} [DecidableEq α] (a b : α) : Bool := decide (a = b)
/-- all that is wanted of the exception class named x with the fields fs -/
def excB (K : PySem.W.Frag) (x : Str) (fs : List Str) : Bool :=
  let C := He.ga K x
  He.eqO (PySem.W.nsIn K mainGlobals x) (some (some (.ref C))) && (oexCls K C && (He.eqO (PySem.W.findIn K (.ref C) "__setattr__") (some (some (.builtin "object.__setattr__"))) &&
  (dB (PySem.W.subIn K (.ref C) (.type "BaseException")) (some true) && (dB (PySem.W.typeIn K (.ref C)) (some (.type "type")) && (PySem.W.keepIn K (.ref C) && (
  He.eqO (PySem.W.findIn K (.ref C) "__init__") (some (some (.ref (He.ma K C "__init__")))) && (dB (PySem.W.typeIn K (.ref (He.ma K C "__init__"))) (some (.type "function")) && (
  xfB K C && (fs.all (fun f => He.eqO (PySem.W.findIn K (.ref C) f) (some none)) && (
  He.eqO (PySem.W.findIn K (.ref C) "__class__") (some (some (.builtin "object.__class__"))) && (He.eqO (PySem.W.specialIn K (.builtin "object.__class__") "__get__") (some (some (.builtin "getset_descriptor.__get__"))) && (
  dB (PySem.W.takesIn K (.builtin "object.__class__")) (some true) && dB (PySem.W.mroIn K C (.type "object")) (some true)))))))))))))
structure ExcF (K : PySem.W.Frag) (x : Str) (fs : List Str) : Prop where
  ns : PySem.W.nsIn K mainGlobals x = some (some (.ref (He.ga K x)))
  oex : OexC K (He.ga K x)
  iC : PySem.W.findIn K (.ref (He.ga K x)) "__init__" = some (some (.ref (He.ma K (He.ga K x) "__init__")))
  tI : PySem.W.typeIn K (.ref (He.ma K (He.ga K x) "__init__")) = some (.type "function")
  xf : XfC K (He.ga K x)
  no : ∀ f ∈ fs, PySem.W.findIn K (.ref (He.ga K x)) f = some none
  ha : PySem.W.findIn K (.ref (He.ga K x)) "__class__" = some (some (.builtin "object.__class__"))
  hn : PySem.W.specialIn K (.builtin "object.__class__") "__get__" = some (some (.builtin "getset_descriptor.__get__"))
  ht : PySem.W.takesIn K (.builtin "object.__class__") = some true
  hm : PySem.W.mroIn K (He.ga K x) (.type "object") = some true
theorem excB_ok {K : PySem.W.Frag} {x : Str} {fs : List Str} (h : excB K x fs = true) : ExcF K x fs := by
  unfold excB at h
  obtain ⟨h1, h⟩ := He.ba h
  obtain ⟨h2, h⟩ := He.ba h
  obtain ⟨h3, h⟩ := He.ba h
  obtain ⟨h4, h⟩ := He.ba h
  obtain ⟨h5, h⟩ := He.ba h
  obtain ⟨h6, h⟩ := He.ba h
  obtain ⟨h7, h⟩ := He.ba h
  obtain ⟨h8, h⟩ := He.ba h
  obtain ⟨h9, h⟩ := He.ba h
  obtain ⟨h10, h⟩ := He.ba h
  obtain ⟨h11, h⟩ := He.ba h
  obtain ⟨h12, h⟩ := He.ba h
  obtain ⟨h13, h14⟩ := He.ba h
  exact ⟨He.eqO_ok h1, ⟨oexCls_ok h2, He.eqO_ok h3, of_decide_eq_true h4, of_decide_eq_true h5, h6⟩, He.eqO_ok h7, of_decide_eq_true h8, xfB_ok h9,
    fun f hf => He.eqO_ok (List.all_eq_true.mp h10 f hf), He.eqO_ok h11, He.eqO_ok h12, of_decide_eq_true h13, of_decide_eq_true h14⟩
/-! ### __init__ of one, two, three fields -/
section
variable {P : Program} {w : World} {K : PySem.W.Frag} {mg : Str → Option Value} {base : Heap} {C f : Addr} {fd : FuncData} {x qual : Str} {params : Arguments} {scope : Scope}
theorem init1 {ns n1 : Str} {p1 p2 p3 p4 : Pos} (F : FunD K x qual params [.Assign [.Attribute (.Name ns p1) n1 p2] (.Name n1 p3) p4] scope [] [] f fd) (S : FnScope [ns, n1] [ns, n1] scope) (T : OexC K C) (no1 : PySem.W.findIn K (.ref C) n1 = some none)
    (v0 : Vis scope ns) (v1 : Vis scope n1) (d0 : (ns == ("__debug__" : Str)) = false := by decide) (d1 : (n1 == ("__debug__" : Str)) = false := by decide) (c0 : (ns == ("__classdict__" : Str)) = false := by decide) (c1 : (n1 == ("__classdict__" : Str)) = false := by decide)
    (hs : ∀ X : Cx, X.env.scope = scope → swapsWith (.Name n1 p3) (some (.Attribute (.Name ns p1) n1 p2)) p4.line X.env = pure false := by intro _ _; rfl) :
    FnOk P w K mg base (L2.CX P w) 1 f fd [ns, n1] (spI C [n1]) := by
  refine F.ok S (fun vs H Q E h => by obtain ⟨a, ws, rfl, hl, _⟩ := h; simpa using hl) (fun cdv A outer s H vs Q E hr h => ?_)
  obtain ⟨a, ws, rfl, hl, ha, k⟩ := h
  obtain ⟨y, rfl⟩ : ∃ y, ws = [y] := by
    match ws, hl with
    | [y], _ => exact ⟨y, rfl⟩
  refine ⟨_, pss_one (ps_ost (pe_var (i := 0) rfl v0 d0 c0) (pe_var (i := 1) rfl v1 d1 c1) (hs _ rfl)), ?_⟩
  refine ⟨y, rfl, .ref a, rfl, a, C, rfl, T, no1, .inl ⟨ha, fun dx hdx hne => ?_⟩⟩
  exact k dx _ hdx hne upd_same (by rw [upd_ne hne]; exact upd_same) fun b h1 h2 => by rw [upd_ne h1, upd_ne h2]
theorem init2 {ns n1 n2 : Str} {p1 p2 p3 p4 q1 q2 q3 q4 : Pos} (F : FunD K x qual params [.Assign [.Attribute (.Name ns p1) n1 p2] (.Name n1 p3) p4, .Assign [.Attribute (.Name ns q1) n2 q2] (.Name n2 q3) q4] scope [] [] f fd)
    (S : FnScope [ns, n1, n2] [ns, n1, n2] scope) (T : OexC K C) (no1 : PySem.W.findIn K (.ref C) n1 = some none) (no2 : PySem.W.findIn K (.ref C) n2 = some none)
    (v0 : Vis scope ns) (v1 : Vis scope n1) (v2 : Vis scope n2) (d0 : (ns == ("__debug__" : Str)) = false := by decide) (d1 : (n1 == ("__debug__" : Str)) = false := by decide) (d2 : (n2 == ("__debug__" : Str)) = false := by decide)
    (c0 : (ns == ("__classdict__" : Str)) = false := by decide) (c1 : (n1 == ("__classdict__" : Str)) = false := by decide) (c2 : (n2 == ("__classdict__" : Str)) = false := by decide)
    (hs : ∀ X : Cx, X.env.scope = scope → swapsWith (.Name n1 p3) (some (.Attribute (.Name ns p1) n1 p2)) p4.line X.env = pure false := by intro _ _; rfl)
    (hs2 : ∀ X : Cx, X.env.scope = scope → swapsWith (.Name n2 q3) (some (.Attribute (.Name ns q1) n2 q2)) q4.line X.env = pure false := by intro _ _; rfl) :
    FnOk P w K mg base (L2.CX P w) 1 f fd [ns, n1, n2] (spI C [n1, n2]) := by
  refine F.ok S (fun vs H Q E h => by obtain ⟨a, ws, rfl, hl, _⟩ := h; simpa using hl) (fun cdv A outer s H vs Q E hr h => ?_)
  obtain ⟨a, ws, rfl, hl, ha, k⟩ := h
  obtain ⟨y, z, rfl⟩ : ∃ y z, ws = [y, z] := by
    match ws, hl with
    | [y, z], _ => exact ⟨y, z, rfl⟩
  refine ⟨_, pss_cons (ps_ost (pe_var (i := 0) rfl v0 d0 c0) (pe_var (i := 1) rfl v1 d1 c1) (hs _ rfl)) (pss_one (ps_ost (pe_var (i := 0) rfl v0 d0 c0) (pe_var (i := 2) rfl v2 d2 c2) (hs2 _ rfl))), ?_⟩
  refine ⟨y, rfl, .ref a, rfl, a, C, rfl, T, no1, .inl ⟨ha, fun dx hdx hne => ?_⟩⟩
  refine ⟨z, rfl, .ref a, rfl, a, C, rfl, T, no2, .inr ⟨dx, _, upd_same, by rw [upd_ne hne]; exact upd_same, by show 1 ≤ 900; decide, ?_⟩⟩
  exact k dx _ hdx hne (by rw [upd_ne (Ne.symm hne)]; exact upd_same) upd_same fun b h1 h2 => by rw [upd_ne h2, upd_ne h1, upd_ne h2]
theorem init3 {ns n1 n2 n3 : Str} {p1 p2 p3 p4 q1 q2 q3 q4 r1 r2 r3 r4 : Pos} (F : FunD K x qual params [.Assign [.Attribute (.Name ns p1) n1 p2] (.Name n1 p3) p4, .Assign [.Attribute (.Name ns q1) n2 q2] (.Name n2 q3) q4, .Assign [.Attribute (.Name ns r1) n3 r2] (.Name n3 r3) r4] scope [] [] f fd)
    (S : FnScope [ns, n1, n2, n3] [ns, n1, n2, n3] scope) (T : OexC K C) (no1 : PySem.W.findIn K (.ref C) n1 = some none) (no2 : PySem.W.findIn K (.ref C) n2 = some none) (no3 : PySem.W.findIn K (.ref C) n3 = some none)
    (v0 : Vis scope ns) (v1 : Vis scope n1) (v2 : Vis scope n2) (v3 : Vis scope n3) (d0 : (ns == ("__debug__" : Str)) = false := by decide) (d1 : (n1 == ("__debug__" : Str)) = false := by decide) (d2 : (n2 == ("__debug__" : Str)) = false := by decide) (d3 : (n3 == ("__debug__" : Str)) = false := by decide)
    (c0 : (ns == ("__classdict__" : Str)) = false := by decide) (c1 : (n1 == ("__classdict__" : Str)) = false := by decide) (c2 : (n2 == ("__classdict__" : Str)) = false := by decide) (c3 : (n3 == ("__classdict__" : Str)) = false := by decide)
    (hs : ∀ X : Cx, X.env.scope = scope → swapsWith (.Name n1 p3) (some (.Attribute (.Name ns p1) n1 p2)) p4.line X.env = pure false := by intro _ _; rfl)
    (hs2 : ∀ X : Cx, X.env.scope = scope → swapsWith (.Name n2 q3) (some (.Attribute (.Name ns q1) n2 q2)) q4.line X.env = pure false := by intro _ _; rfl)
    (hs3 : ∀ X : Cx, X.env.scope = scope → swapsWith (.Name n3 r3) (some (.Attribute (.Name ns r1) n3 r2)) r4.line X.env = pure false := by intro _ _; rfl) :
    FnOk P w K mg base (L2.CX P w) 1 f fd [ns, n1, n2, n3] (spI C [n1, n2, n3]) := by
  refine F.ok S (fun vs H Q E h => by obtain ⟨a, ws, rfl, hl, _⟩ := h; simpa using hl) (fun cdv A outer s H vs Q E hr h => ?_)
  obtain ⟨a, ws, rfl, hl, ha, k⟩ := h
  obtain ⟨y, z, u, rfl⟩ : ∃ y z u, ws = [y, z, u] := by
    match ws, hl with
    | [y, z, u], _ => exact ⟨y, z, u, rfl⟩
  refine ⟨_, pss_cons (ps_ost (pe_var (i := 0) rfl v0 d0 c0) (pe_var (i := 1) rfl v1 d1 c1) (hs _ rfl)) (pss_cons (ps_ost (pe_var (i := 0) rfl v0 d0 c0) (pe_var (i := 2) rfl v2 d2 c2) (hs2 _ rfl)) (pss_one (ps_ost (pe_var (i := 0) rfl v0 d0 c0) (pe_var (i := 3) rfl v3 d3 c3) (hs3 _ rfl)))), ?_⟩
  refine ⟨y, rfl, .ref a, rfl, a, C, rfl, T, no1, .inl ⟨ha, fun dx hdx hne => ?_⟩⟩
  refine ⟨z, rfl, .ref a, rfl, a, C, rfl, T, no2, .inr ⟨dx, _, upd_same, by rw [upd_ne hne]; exact upd_same, by show 1 ≤ 900; decide, ?_⟩⟩
  refine ⟨u, rfl, .ref a, rfl, a, C, rfl, T, no3, .inr ⟨dx, _, by rw [upd_ne (Ne.symm hne)]; exact upd_same, upd_same, by show 2 ≤ 900; decide, ?_⟩⟩
  exact k dx _ hdx hne (by rw [upd_ne (Ne.symm hne), upd_ne (Ne.symm hne)]; exact upd_same) upd_same fun b h1 h2 => by rw [upd_ne h2, upd_ne h2, upd_ne h1, upd_ne h2]
end

/-! ### in a suite -/
section
variable {X : Cx} {a : Addr} {oe : Obj} {cls : Value} {d : Option Addr} {pn : List (Addr × Obj)} {x : Exc} {n : Str} {i : Nat} {p pos : Pos}
/-- the fields that may be read of an exception, by its class's name -/
def XFs (K : PySem.W.Frag) (fok : Str → Str → Bool) : Prop := ∀ c f, fok c f = true → XfC K (He.ga K c) ∧ PySem.W.findIn K (.ref (He.ga K c)) f = some none
def xfM (fok : Str → Str → Bool) (i : Nat) (x : Exc) (f : Str) : ME := fun env h => match env[i]? with
  | some (some .xv) => if fok x.cls f = true then (match x.fs.lookup f with
    | some v => .ok v h
    | none => .stuck) else .stuck
  | _ => .stuck
open Classical in
theorem s_xf {fok : Str → Str → Bool} {f : Str} (T : XFs X.K fok) (hz : Zc cls d oe) (hf : ∃ vs, oe.data = .fields vs) (hv : PE (X.suite a ((a, oe) :: pn)) (.Name n p) (tVar i))
    (hb : attributeBase (.Name n p) f X.env (eval (.Name n p) X.env) = eval (.Name n p) X.env := by rfl) : SE (some ⟨a, cls, d, x⟩) (X.suite a ((a, oe) :: pn)) (.Attribute (.Name n p) f pos) (xfM fok i x f) := fun W tk => by
  by_cases c : fok x.cls f = true
  · obtain ⟨T1, T2⟩ := T x.cls f c
    refine ⟨_, pe_xf T1 T2 hz hf hv hb, fun ρ env ih σ H Q rl post => ?_⟩
    unfold xfM at post
    split at post
    · rename_i e
      obtain ⟨p, e1, e2⟩ := rl.xvar i e
      cases e1
      obtain ⟨mg, dd, vs, h1, h2, h3, h4⟩ := rl.xok _ rfl
      rw [if_pos c] at post
      split at post
      · rename_i v hv
        obtain ⟨u, h5, h6⟩ := h4.get hv
        exact ⟨.ref a, e2, rfl, h1, dd, vs, u, h2, h3, h5, post ρ u H .refl rl.hp h6⟩
      · exact post.elim
    · exact post.elim
  · refine ⟨fun _ _ _ => False, ⟨fun _ _ _ _ _ _ z => z.elim⟩, fun ρ env ih σ H Q rl post => ?_⟩
    unfold xfM at post
    split at post
    · rw [if_neg c] at post
      exact post
    · exact post
/-! isinstance of the exception -/
def rIsD (K : PySem.W.Frag) (D a : Addr) (d : Option Addr) : List V → Hp → VK → Prop := fun xs H Q => ∃ (c : V) (cv : Value) (b : Bool) (dd : Addr) (fs : List (Str × V)), xs = [.ref a, c] ∧ (∀ u, RelV c u → u = cv) ∧ d = some dd ∧ H dd = some (.xd fs) ∧ PySem.W.kitOne K (.ref D) cv = some b ∧ Q (.bl b) H
theorem call_isD {D : Addr} (T : XfC X.K D) (ha : PySem.W.findIn X.K (.ref D) "__class__" = some (some (.builtin "object.__class__"))) (hn : PySem.W.specialIn X.K (.builtin "object.__class__") "__get__" = some (some (.builtin "getset_descriptor.__get__")))
    (ht : PySem.W.takesIn X.K (.builtin "object.__class__") = some true) (hm : PySem.W.mroIn X.K D (.type "object") = some true) (hz : Zc (.ref D) d oe) (hf : ∃ vs, oe.data = .fields vs) : CallR (X.suite a ((a, oe) :: pn)) (.builtin "isinstance") (rIsD X.K D a d) := by
  intro pins s σ H xs us Q I r h
  obtain ⟨c, cv, b, dd, fs, rfl, hcv, rfl, hdd, e, q⟩ := h
  cases r with
  | cons rx rr =>
    cases rr with
    | cons rt rr =>
      cases rr
      cases rx
      have ec := hcv _ rt
      subst ec
      obtain ⟨hget, _⟩ := I.pin (a, oe) (List.mem_append.mpr (.inl List.mem_cons_self))
      obtain ⟨vs, hv⟩ := hf
      have hx : ObjOk X.prog X.w H s.heap dd (.xd fs) := I.hok dd _ hdd
      obtain ⟨mA, hns, hr⟩ := hx
      obtain ⟨od, ho, hl⟩ := lookIn_ns hns
      have J : PySem.W.InstAt s.heap a oe D (some od) := ⟨hget, hz.1, by unfold PySem.W.notCls; rw [hv] <;> rfl, by rw [hz.2]; exact ho⟩
      have hcl : (PySem.W.clsIn X.K D).isSome = true := by
        obtain ⟨cd, hc, _⟩ := PySem.W.any_some T.hdC
        rw [hc]; rfl
      exact PySem.W.kia_one (PySem.W.kitx_exc (x := a) (ox := oe) (od := some od) hcl T.ga T.gg T.exC ha hn ht hm) I.kIn J e (fun z => nomatch z) fun tk => ⟨.bl b, H, I.kept (t' := tk) fun _ _ z => z, rfl, q⟩
def isxM (isub : Str → Str → Option Bool) (i : Nat) (x : Exc) (y : Str) : ME := fun env h => match env[i]? with
  | some (some .xv) => (match isub x.cls y with
    | some b => .ok (.bl b) h
    | none => .stuck)
  | _ => .stuck
theorem s_isx {isub : Str → Str → Option Bool} {y : Str} {p1 p2 : Pos} {c : V} {cv : Value} (pc : PE (X.suite a ((a, oe) :: pn)) (.Name y p2) (tC c)) (hc1 : ∀ u, RelV c u → u = cv) (T : ∀ z b, isub z y = some b → (∃ fs, ExcF X.K z fs) ∧ PySem.W.kitOne X.K (.ref (He.ga X.K z)) cv = some b)
    (hz : Zc cls d oe) (hf : ∃ vs, oe.data = .fields vs) (hv : PE (X.suite a ((a, oe) :: pn)) (.Name n p) (tVar i)) (hg : Gl X "isinstance") (hm : X.mg "isinstance" = none)
    (hbt : bootBuiltins "isinstance" = some (.builtin "isinstance") := by decide +kernel)
    (hs1 : starEach [.Name n p, .Name y p2] X.env = (false, eval (.Name n p) X.env) :: starEach [.Name y p2] X.env := by rfl) (hs2 : starEach [.Name y p2] X.env = (false, eval (.Name y p2) X.env) :: starEach [] X.env := by rfl)
    (hpl : (backTo pos (starEach [.Name y p2] X.env)).any (·.1) = false := by rfl) : SE (some ⟨a, cls, d, x⟩) (X.suite a ((a, oe) :: pn)) (.Call (.Name "isinstance" p1) [.Name n p, .Name y p2] [] pos) (isxM isub i x y) := fun W tk => by
  have no : ∀ {ρ : Rho} {env : Ev} {ih : IH} {σ : L2.St} {H : Hp} {Q : VK}, (isub x.cls y = none ∨ cls ≠ .ref (He.ga X.K x.cls)) → Rel X.K (some ⟨a, cls, d, x⟩) ρ env ih σ H → PostE X.K X.mg W ρ σ H Q (isxM isub i x y env ih) → False := fun hn rl post => by
    unfold isxM at post
    split at post
    · rcases hn with hn | hn
      · rw [hn] at post; exact post
      · obtain ⟨mg, dd, vs, h1, h2, h3, h4⟩ := rl.xok _ rfl
        exact hn h1
    · exact post
  cases q : isub x.cls y with
  | none => exact ⟨fun _ _ _ => False, ⟨fun _ _ _ _ _ _ z => z.elim⟩, fun ρ env ih σ H Q rl post => no (.inl q) rl post⟩
  | some b =>
    by_cases hc : cls = .ref (He.ga X.K x.cls)
    · obtain ⟨⟨fs, F⟩, hk⟩ := T _ _ q
      have cr := call_isD (X := X) (a := a) (pn := pn) F.xf F.ha F.hn F.ht F.hm (d := d) (oe := oe) (by rw [← hc]; exact hz) hf
      exact ⟨_, pe_callB (X := X.suite a ((a, oe) :: pn)) cr hg hm hbt (pa_cons hv (pa_cons pc pa_nil hs2) hs1) (by decide) (by decide) hs1 hpl, fun ρ env ih σ H Q rl post => by
          unfold isxM at post
          split at post
          · rename_i e
            obtain ⟨p, e1, e2⟩ := rl.xvar i e
            cases e1
            obtain ⟨mg, dd, vs, h1, h2, h3, h4⟩ := rl.xok _ rfl
            rw [q] at post
            exact ⟨.ref a, e2, c, cv, b, dd, vs, rfl, hc1, h2, h3, hk, post ρ _ H .refl rl.hp (.bl _)⟩
          · exact post.elim⟩
    · exact ⟨fun _ _ _ => False, ⟨fun _ _ _ _ _ _ z => z.elim⟩, fun ρ env ih σ H Q rl post => no (.inr hc) rl post⟩
/-- isinstance(e, y), y a class of the program's own | a built-in one -/
theorem s_isxC {isub : Str → Str → Option Bool} {y : Str} {p1 p2 : Pos} {C : Addr} (g2 : Gl X y) (h1 : X.mg y = some (.ref C)) (T : ∀ z b, isub z y = some b → (∃ fs, ExcF X.K z fs) ∧ PySem.W.kitOne X.K (.ref (He.ga X.K z)) (.ref C) = some b)
    (hz : Zc cls d oe) (hf : ∃ vs, oe.data = .fields vs) (hv : PE (X.suite a ((a, oe) :: pn)) (.Name n p) (tVar i)) (hg : Gl X "isinstance") (hm : X.mg "isinstance" = none) (dby : (y == ("__debug__" : Str)) = false := by decide)
    (hs1 : starEach [.Name n p, .Name y p2] X.env = (false, eval (.Name n p) X.env) :: starEach [.Name y p2] X.env := by rfl) (hs2 : starEach [.Name y p2] X.env = (false, eval (.Name y p2) X.env) :: starEach [] X.env := by rfl)
    (hpl : (backTo pos (starEach [.Name y p2] X.env)).any (·.1) = false := by rfl) : SE (some ⟨a, cls, d, x⟩) (X.suite a ((a, oe) :: pn)) (.Call (.Name "isinstance" p1) [.Name n p, .Name y p2] [] pos) (isxM isub i x y) :=
  s_isx (c := .ref C) (cv := .ref C) (pe_glob (X := X.suite a ((a, oe) :: pn)) g2 h1 rfl dby) (fun u r => r) T hz hf hv hg hm (by decide +kernel) hs1 hs2 hpl
theorem s_isxT {isub : Str → Str → Option Bool} {y : Str} {p1 p2 : Pos} {B : String} (g2 : Gl X y) (h1 : X.mg y = none) (h2 : bootBuiltins y = some (.type B)) (T : ∀ z b, isub z y = some b → (∃ fs, ExcF X.K z fs) ∧ PySem.W.kitOne X.K (.ref (He.ga X.K z)) (.type B) = some b)
    (hz : Zc cls d oe) (hf : ∃ vs, oe.data = .fields vs) (hv : PE (X.suite a ((a, oe) :: pn)) (.Name n p) (tVar i)) (hg : Gl X "isinstance") (hm : X.mg "isinstance" = none) (hn : y ≠ "__name__" := by decide) (dby : (y == ("__debug__" : Str)) = false := by decide)
    (hs1 : starEach [.Name n p, .Name y p2] X.env = (false, eval (.Name n p) X.env) :: starEach [.Name y p2] X.env := by rfl) (hs2 : starEach [.Name y p2] X.env = (false, eval (.Name y p2) X.env) :: starEach [] X.env := by rfl)
    (hpl : (backTo pos (starEach [.Name y p2] X.env)).any (·.1) = false := by rfl) : SE (some ⟨a, cls, d, x⟩) (X.suite a ((a, oe) :: pn)) (.Call (.Name "isinstance" p1) [.Name n p, .Name y p2] [] pos) (isxM isub i x y) :=
  s_isx (c := .ty B) (cv := .type B) (pe_bltn (X := X.suite a ((a, oe) :: pn)) g2 h1 h2 rfl hn dby) (fun u r => r) T hz hf hv hg hm (by decide +kernel) hs1 hs2 hpl
end

/-! ### argument lists of a known length -/
def LenA (n : Nat) (ms : MA) : Prop := ∀ env h ds h', ms env h = .ok ds h' → ds.length = n
theorem la_nil : LenA 0 anilM := fun env h ds h' e => by cases e; rfl
theorem la_cons {n : Nat} {ma : ME} {ms : MA} (a : LenA n ms) : LenA (n + 1) (aconsM ma ms) := fun env h ds h' e => by
  unfold aconsM at e
  cases q : ma env h with
  | ok d h1 =>
    rw [q] at e
    cases q2 : ms env h1 with
    | ok ds1 h2 =>
      have e : (R.ok (d :: ds1) h2 : R (List D)) = .ok ds h' := by
        have e' : ((ms env h1).bind fun ds h => .ok (d :: ds) h) = .ok ds h' := e
        rw [q2] at e'
        exact e'
      cases e
      exact congrArg Nat.succ (a env h1 ds1 _ q2)
    | exc x h =>
      have e' : ((ms env h1).bind fun ds h => .ok (d :: ds) h) = .ok ds h' := e
      rw [q2] at e'
      cases e'
    | stuck =>
      have e' : ((ms env h1).bind fun ds h => .ok (d :: ds) h) = .ok ds h' := e
      rw [q2] at e'
      cases e'
  | exc x h => rw [q] at e; cases e
  | stuck => rw [q] at e; cases e
end Z
/-! Z10: what the top leaves, as a table; the end of a law. -/
namespace Z
open PySem PySem.Spec PyProof.Rows L2
/-! constants of the module -/
def conSeq (K : PySem.W.Frag) (n : String) (a : Addr) : Option (List Value) := match K.lookup a with
  | some o => match o.cls, o.dict, o.data with
    | .type m, none, .seq its _ => if m = n ∧ its.size ≤ sizeLine then some its.toList else none
    | _, _, _ => none
  | none => none
mutual
def conV (K : PySem.W.Frag) : D → Value → Bool
  | .non, u => match u with | .none => true | _ => false
  | .bl b, u => match u with | .bool c => b == c | _ => false
  | .int i, u => match u with | .int j _ => decide (i = j) | _ => false
  | .str x, u => match u with | .str y _ => decide (x = y) | _ => false
  | .tup ds, u => match u with | .ref a => (match conSeq K "tuple" a with | some us => conL K ds us | none => false) | _ => false
  | .fz ds, u => match u with | .ref a => (match conSeq K "list" a with | some us => conL K ds us | none => false) | _ => false
  | .ref _, _ => false
  | .xv, _ => false
def conL (K : PySem.W.Frag) : List D → List Value → Bool
  | [], us => match us with | [] => true | _ => false
  | d :: ds, us => match us with | u :: us => conV K d u && conL K ds us | [] => false
end
theorem conSeq_ok {K : PySem.W.Frag} {n : String} {a : Addr} {us : List Value} (h : conSeq K n a = some us) : ∃ (o : Obj) (its : Array Value) (k : Nat), K.lookup a = some o ∧ o.cls = .type n ∧ o.dict = none ∧ o.data = .seq its k ∧ its.size ≤ sizeLine ∧ its.toList = us := by
  unfold conSeq at h
  split at h
  · rename_i o e
    split at h
    · rename_i m its k h1 h2 h3
      split at h
      · rename_i c
        cases h
        exact ⟨o, its, k, e, by rw [h1, c.1], h2, h3, c.2, rfl⟩
      · cases h
    · cases h
  · cases h
mutual
theorem conV_ok {K : PySem.W.Frag} : ∀ {d : D} {u : Value}, conV K d u = true → ∃ v, RelV v u ∧ ∀ ρ H, RepV K ρ H d v
  | .non, u, h => by cases u <;> first | exact ⟨.non, rfl, fun _ _ => .non⟩ | cases h
  | .bl b, u, h => by
    cases u <;> first | cases h | skip
    rename_i c
    have : b = c := by simpa [conV] using h
    subst this
    exact ⟨.bl b, rfl, fun _ _ => .bl b⟩
  | .int i, u, h => by
    cases u <;> first | cases h | skip
    rename_i j t
    have : i = j := by simpa [conV] using h
    subst this
    exact ⟨.int i, ⟨t, rfl⟩, fun _ _ => .int i⟩
  | .str x, u, h => by
    cases u <;> first | cases h | skip
    rename_i y t
    have : x = y := by simpa [conV] using h
    subst this
    exact ⟨.str x, ⟨t, rfl⟩, fun _ _ => .str x⟩
  | .tup ds, u, h => by
    cases u <;> first | cases h | skip
    rename_i a
    unfold conV at h
    dsimp only at h
    split at h
    · rename_i us e
      obtain ⟨vs, h1, h2⟩ := conL_ok h
      obtain ⟨o, its, k, q1, q2, q3, q4, q5, q6⟩ := conSeq_ok e
      exact ⟨.ref a, rfl, fun ρ H => .tup (.inr ⟨o, its, k, q1, q2, q4, q5, by rw [q6]; exact h1⟩) (h2 ρ H)⟩
    · cases h
  | .fz ds, u, h => by
    cases u <;> first | cases h | skip
    rename_i a
    unfold conV at h
    dsimp only at h
    split at h
    · rename_i us e
      obtain ⟨vs, h1, h2⟩ := conL_ok h
      obtain ⟨o, its, k, q1, q2, q3, q4, q5, q6⟩ := conSeq_ok e
      exact ⟨.ref a, rfl, fun ρ H => .fz (.inr ⟨o, its, k, q1, q2, q3, q4, q5, by rw [q6]; exact h1⟩) (h2 ρ H)⟩
    · cases h
  | .ref _, _, h => by simp [conV] at h
  | .xv, _, h => by simp [conV] at h
theorem conL_ok {K : PySem.W.Frag} : ∀ {ds : List D} {us : List Value}, conL K ds us = true → ∃ vs, Vals vs us ∧ ∀ ρ H, RepL K ρ H ds vs
  | [], us, h => by
    cases us with
    | nil => exact ⟨[], .nil, fun _ _ => .nil⟩
    | cons u us => simp [conL] at h
  | d :: ds, us, h => by
    cases us with
    | nil => simp [conL] at h
    | cons u us =>
      have h : (conV K d u && conL K ds us) = true := by simpa [conL] using h
      rw [Bool.and_eq_true] at h
      obtain ⟨v, h1, h2⟩ := conV_ok h.1
      obtain ⟨vs, h3, h4⟩ := conL_ok h.2
      exact ⟨v :: vs, .cons h1 h3, fun ρ H => .cons (h2 ρ H) (h4 ρ H)⟩
end
def conX (K : PySem.W.Frag) (x : Str) (d : D) : Bool := match PySem.W.nsIn K mainGlobals x with
  | some (some u) => conV K d u
  | _ => false
/-- x is a constant, d -/
def ConF (K : PySem.W.Frag) (mg : Str → Option Value) (x : Str) (d : D) : Prop := ∃ u v, mg x = some u ∧ RelV v u ∧ ∀ ρ H, RepV K ρ H d v
/-- the names that are free, the built-in functions of modules, the classes, the exceptions with their fields, which class is which -/
structure Tab where
  free : List Str
  bi : List (Str × String)
  cls : List Str
  exc : List (Str × List Str)
  ex : List (Str × Str × Bool)
  ey : List (Str × String × Bool)
  con : List (Str × D) := []
  ali : List (Str × Str) := []
  /-- facts of own classes; classes that are asked for by isinstance; which type is one; dicts of the top with texts as keys -/
  own : List He.Fa := []
  icl : List Str := []
  kit : List (Str × String × Bool) := []
  kio : List (Str × Str × Bool) := []
  dts : List (Str × List (Str × D)) := []
def conK (K : PySem.W.Frag) (x k : Str) (d : D) : Bool := match PySem.W.nsIn K (He.ga K x) k with
  | some (some u) => conV K d u
  | _ => false
/-- what isinstance asks of the class of an instance -/
def iclB (K : PySem.W.Frag) (x : Str) : Bool :=
  let C := He.ga K x
  He.eqO (PySem.W.findIn K (.ref C) "__class__") (some (some (.builtin "object.__class__"))) && (He.eqO (PySem.W.specialIn K (.builtin "object.__class__") "__get__") (some (some (.builtin "getset_descriptor.__get__"))) && (
  dB (PySem.W.takesIn K (.builtin "object.__class__")) (some true) && (dB (PySem.W.mroIn K C (.type "object")) (some true) && (He.Fa.cls x).ok K)))
structure IclF (K : PySem.W.Frag) (C : Addr) : Prop where
  ha : PySem.W.findIn K (.ref C) "__class__" = some (some (.builtin "object.__class__"))
  hn : PySem.W.specialIn K (.builtin "object.__class__") "__get__" = some (some (.builtin "getset_descriptor.__get__"))
  ht : PySem.W.takesIn K (.builtin "object.__class__") = some true
  hm : PySem.W.mroIn K C (.type "object") = some true
  cl : Cls K C
theorem iclB_ok {K : PySem.W.Frag} {x : Str} (h : iclB K x = true) : IclF K (He.ga K x) := by
  unfold iclB at h
  obtain ⟨h1, h⟩ := He.ba h
  obtain ⟨h2, h⟩ := He.ba h
  obtain ⟨h3, h⟩ := He.ba h
  obtain ⟨h4, h5⟩ := He.ba h
  exact ⟨He.eqO_ok h1, He.eqO_ok h2, of_decide_eq_true h3, of_decide_eq_true h4, He.cls_ok h5⟩
def Tab.more (t : Tab) (K : PySem.W.Frag) : Bool :=
  t.own.all (fun f => f.ok K) && (t.icl.all (fun c => iclB K c) && (t.kit.all (fun p => dB (PySem.W.kitOne K (.type p.2.1) (.ref (He.ga K p.1))) (some p.2.2)) && (
  t.kio.all (fun p => dB (PySem.W.kitOne K (.ref (He.ga K p.2.1)) (.ref (He.ga K p.1))) (some p.2.2)) && t.dts.all (fun q => q.2.all fun kv => conK K q.1 kv.1 kv.2))))
def Tab.ok (t : Tab) (K : PySem.W.Frag) : Bool :=
  t.free.all (fun x => He.eqO (PySem.W.nsIn K mainGlobals x) (some none)) && (t.bi.all (fun p => He.eqO (PySem.W.nsIn K mainGlobals p.1) (some (some (.builtin p.2)))) && (
  t.cls.all (fun x => He.eqO (PySem.W.nsIn K mainGlobals x) (some (some (.ref (He.ga K x))))) && (t.exc.all (fun p => excB K p.1 p.2) && (
  t.ex.all (fun p => dB (PySem.W.exmOne K (.ref (He.ga K p.1)) (.ref (He.ga K p.2.1))) (some p.2.2) && dB (PySem.W.kitOne K (.ref (He.ga K p.1)) (.ref (He.ga K p.2.1))) (some p.2.2)) &&
  t.ey.all (fun p => dB (PySem.W.exmOne K (.ref (He.ga K p.1)) (.type p.2.1)) (some p.2.2) && dB (PySem.W.kitOne K (.ref (He.ga K p.1)) (.type p.2.1)) (some p.2.2)) && (t.con.all (fun p => conX K p.1 p.2) && (t.ali.all (fun p => He.eqO (PySem.W.nsIn K mainGlobals p.1) (some (some (.ref (He.ga K p.2))))) && t.more K))))))
structure Tx (t : Tab) (K : PySem.W.Frag) (mg : Str → Option Value) : Prop where
  mn : ∀ x, x ∈ t.free → mg x = none
  mb : ∀ x id, (x, id) ∈ t.bi → mg x = some (.builtin id)
  mc : ∀ x, x ∈ t.cls → mg x = some (.ref (He.ga K x))
  xc : ∀ x fs, (x, fs) ∈ t.exc → ExcF K x fs
  em : ∀ x y b, (x, y, b) ∈ t.ex → PySem.W.exmOne K (.ref (He.ga K x)) (.ref (He.ga K y)) = some b ∧ PySem.W.kitOne K (.ref (He.ga K x)) (.ref (He.ga K y)) = some b
  et : ∀ x y b, (x, y, b) ∈ t.ey → PySem.W.exmOne K (.ref (He.ga K x)) (.type y) = some b ∧ PySem.W.kitOne K (.ref (He.ga K x)) (.type y) = some b
  con : ∀ x d, (x, d) ∈ t.con → ConF K mg x d
  ali : ∀ x y, (x, y) ∈ t.ali → mg x = some (.ref (He.ga K y))
  more : t.more K = true
theorem Tab.tx {t : Tab} {K : PySem.W.Frag} {h : Heap} {mg : Str → Option Value} (c : t.ok K = true) (X : K.In h) (G : h.Ns mainGlobals mg) : Tx t K mg := by
  unfold Tab.ok at c
  obtain ⟨c1, c⟩ := He.ba c
  obtain ⟨c2, c⟩ := He.ba c
  obtain ⟨c3, c⟩ := He.ba c
  obtain ⟨c4, c⟩ := He.ba c
  obtain ⟨c, c'⟩ := He.ba c
  obtain ⟨c5, c6⟩ := He.ba c
  obtain ⟨c7, c8⟩ := He.ba c'
  obtain ⟨c8, c9⟩ := He.ba c8
  refine ⟨fun x hx => PySem.W.mg_none_of X G (He.eqO_ok (List.all_eq_true.mp c1 x hx)), fun x id hx => PySem.W.mg_of X G (He.eqO_ok (List.all_eq_true.mp c2 (x, id) hx)), fun x hx => PySem.W.mg_of X G (He.eqO_ok (List.all_eq_true.mp c3 x hx)),
    fun x fs hx => excB_ok (List.all_eq_true.mp c4 (x, fs) hx), fun x y b hx => ?_, fun x y b hx => ?_, fun x d hx => ?_, fun x y hx => PySem.W.mg_of X G (He.eqO_ok (List.all_eq_true.mp c8 (x, y) hx)), c9⟩
  · obtain ⟨d1, d2⟩ := He.ba (List.all_eq_true.mp c5 (x, y, b) hx)
    exact ⟨of_decide_eq_true d1, of_decide_eq_true d2⟩
  · obtain ⟨d1, d2⟩ := He.ba (List.all_eq_true.mp c6 (x, y, b) hx)
    exact ⟨of_decide_eq_true d1, of_decide_eq_true d2⟩
  · have q : conX K x d = true := List.all_eq_true.mp c7 (x, d) hx
    unfold conX at q
    split at q
    · rename_i u e
      obtain ⟨v, h1, h2⟩ := conV_ok q
      exact ⟨u, v, PySem.W.mg_of X G e, h1, h2⟩
    · cases q
theorem Tx.fact {t : Tab} {K : PySem.W.Frag} {mg : Str → Option Value} (T : Tx t K mg) {f : He.Fa} (h : f ∈ t.own) : f.ok K = true :=
  List.all_eq_true.mp (He.ba T.more).1 f h
theorem Tx.iclF {t : Tab} {K : PySem.W.Frag} {mg : Str → Option Value} (T : Tx t K mg) {x : Str} (h : x ∈ t.icl) : IclF K (He.ga K x) :=
  iclB_ok (List.all_eq_true.mp (He.ba (He.ba T.more).2).1 x h)
theorem Tx.kitT {t : Tab} {K : PySem.W.Frag} {mg : Str → Option Value} (T : Tx t K mg) {p : Str × String × Bool} (h : p ∈ t.kit) : PySem.W.kitOne K (.type p.2.1) (.ref (He.ga K p.1)) = some p.2.2 :=
  of_decide_eq_true (List.all_eq_true.mp (He.ba (He.ba (He.ba T.more).2).2).1 p h)
theorem Tx.kitO {t : Tab} {K : PySem.W.Frag} {mg : Str → Option Value} (T : Tx t K mg) {p : Str × Str × Bool} (h : p ∈ t.kio) : PySem.W.kitOne K (.ref (He.ga K p.2.1)) (.ref (He.ga K p.1)) = some p.2.2 :=
  of_decide_eq_true (List.all_eq_true.mp (He.ba (He.ba (He.ba (He.ba T.more).2).2).2).1 p h)
theorem Tx.dtV {t : Tab} {K : PySem.W.Frag} {mg : Str → Option Value} (T : Tx t K mg) {x k : Str} {d : D} {kvs : List (Str × D)} (h : (x, kvs) ∈ t.dts) (hk : (k, d) ∈ kvs) : ∃ u v, PySem.W.nsIn K (He.ga K x) k = some (some u) ∧ RelV v u ∧ ∀ ρ H, RepV K ρ H d v := by
  have q : conK K x k d = true := List.all_eq_true.mp (List.all_eq_true.mp (He.ba (He.ba (He.ba (He.ba T.more).2).2).2).2 (x, kvs) h) (k, d) hk
  unfold conK at q
  split at q
  · rename_i u e
    obtain ⟨v, h1, h2⟩ := conV_ok q
    exact ⟨u, v, e, h1, h2⟩
  · cases q
theorem s_con {xp : Option XP} {X : Cx} {x : Str} {d : D} {pos : Pos} (hg : Gl X x) (h : ConF X.K X.mg x d) (hd : (x == ("__debug__" : Str)) = false := by decide) : SE xp X (.Name x pos) (constM d) := fun W tk => by
  obtain ⟨u, v, h1, h2, h3⟩ := h
  exact ⟨_, pe_glob hg h1 h2 hd, fun ρ env ih σ H Q rl post => post ρ v H .refl rl.hp (h3 ρ H)⟩
/-- is an x a y, both the program's own classes -/
def Tab.sub (t : Tab) (x y : Str) : Option Bool := (t.ex.find? fun p => decide (p.1 = x ∧ p.2.1 = y)).map (·.2.2)
/-- .. y a built-in class, by its name -/
def Tab.suy (t : Tab) (x y : Str) : Option Bool := (t.ey.find? fun p => decide (p.1 = x ∧ PySem.Str.ofString p.2.1 = y)).map (·.2.2)
def Tab.isub (t : Tab) (x y : Str) : Option Bool := match t.sub x y with
  | some b => some b
  | none => t.suy x y
def Tab.fok (t : Tab) (x f : Str) : Bool := t.exc.any fun p => decide (p.1 = x) && p.2.contains f
section
variable {t : Tab} {K : PySem.W.Frag} {mg : Str → Option Value}
theorem Tx.subE (T : Tx t K mg) {x y : Str} {b : Bool} (h : t.sub x y = some b) : PySem.W.exmOne K (.ref (He.ga K x)) (.ref (He.ga K y)) = some b ∧ PySem.W.kitOne K (.ref (He.ga K x)) (.ref (He.ga K y)) = some b := by
  obtain ⟨p, h1, h2⟩ := Option.map_eq_some_iff.mp h
  have h3 := of_decide_eq_true (List.find?_some (p := fun p : Str × Str × Bool => decide (p.1 = x ∧ p.2.1 = y)) h1)
  have h4 := List.mem_of_find?_eq_some h1
  obtain ⟨p1, p2, p3⟩ := p
  obtain ⟨rfl, rfl⟩ := h3
  cases h2
  exact T.em _ _ _ h4
theorem Tx.suyE (T : Tx t K mg) {x : Str} {y : String} {b : Bool} (inj : ∀ p ∈ t.ey, PySem.Str.ofString p.2.1 = PySem.Str.ofString y → p.2.1 = y) (h : t.suy x (PySem.Str.ofString y) = some b) : PySem.W.exmOne K (.ref (He.ga K x)) (.type y) = some b ∧ PySem.W.kitOne K (.ref (He.ga K x)) (.type y) = some b := by
  obtain ⟨p, h1, h2⟩ := Option.map_eq_some_iff.mp h
  have h3 := of_decide_eq_true (List.find?_some (p := fun p : Str × String × Bool => decide (p.1 = x ∧ PySem.Str.ofString p.2.1 = PySem.Str.ofString y)) h1)
  have h4 := List.mem_of_find?_eq_some h1
  have h5 := inj p h4 h3.2
  obtain ⟨p1, p2, p3⟩ := p
  obtain ⟨rfl, _⟩ := h3
  dsimp only at h5
  subst h5
  cases h2
  exact T.et _ _ _ h4
/-- whatever is an a of the table of classes is an exception of the table -/
theorem Tx.excF (T : Tx t K mg) (hx : (t.ex.all fun p => t.exc.any fun q => decide (q.1 = p.1)) = true) {x y : Str} {b : Bool} (h : t.sub x y = some b) : ∃ fs, ExcF K x fs := by
  obtain ⟨p, h1, h2⟩ := Option.map_eq_some_iff.mp h
  have h3 := of_decide_eq_true (List.find?_some (p := fun p : Str × Str × Bool => decide (p.1 = x ∧ p.2.1 = y)) h1)
  obtain ⟨⟨q1, q2⟩, h5, h6⟩ := List.any_eq_true.mp (List.all_eq_true.mp hx p (List.mem_of_find?_eq_some h1))
  have h7 : q1 = p.1 := of_decide_eq_true h6
  rw [h3.1] at h7
  subst h7
  exact ⟨q2, T.xc _ _ h5⟩
theorem Tx.excFy (T : Tx t K mg) (hx : (t.ey.all fun p => t.exc.any fun q => decide (q.1 = p.1)) = true) {x y : Str} {b : Bool} (h : t.suy x y = some b) : ∃ fs, ExcF K x fs := by
  obtain ⟨p, h1, h2⟩ := Option.map_eq_some_iff.mp h
  have h3 := of_decide_eq_true (List.find?_some (p := fun p : Str × String × Bool => decide (p.1 = x ∧ PySem.Str.ofString p.2.1 = y)) h1)
  obtain ⟨⟨q1, q2⟩, h5, h6⟩ := List.any_eq_true.mp (List.all_eq_true.mp hx p (List.mem_of_find?_eq_some h1))
  have h7 : q1 = p.1 := of_decide_eq_true h6
  rw [h3.1] at h7
  subst h7
  exact ⟨q2, T.xc _ _ h5⟩
theorem Tx.fokE (T : Tx t K mg) : XFs K t.fok := fun c f h => by
  obtain ⟨p, h1, h2⟩ := List.any_eq_true.mp h
  rw [Bool.and_eq_true] at h2
  obtain ⟨h2, h3⟩ := h2
  obtain ⟨p1, p2⟩ := p
  have e := of_decide_eq_true h2
  dsimp only at e h3
  subst e
  have F := T.xc _ _ h1
  exact ⟨F.xf, F.no f (List.contains_iff_mem.mp h3)⟩
end
/-! ### the head's hook -/
def tabsK (t : Tab) (K : PySem.W.Frag) : List (Option (List (Option (Str × Int)))) := t.dts.map fun q => He.dicW K (He.ga K q.1)
def tabsV (t : Tab) (w : World) : List (Option (List (Option (Str × Int)))) := t.dts.map fun q => some (He.keysIn w.params (q.2.map Prod.fst))
def obsZ (t : Tab) (fn : List He.DefD) (K : PySem.W.Frag) : He.AlT := ((t.ok K && fn.all fun d => d.ok K, fn.map fun d => He.fnW K d.at_), tabsK t K)
def valZ (t : Tab) (fn : List He.DefD) (w : World) : He.AlT := (He.valD fn, tabsV t w)
def SaysZ (t : Tab) (fn : List He.DefD) (w : World) (K : PySem.W.Frag) : Prop := obsZ t fn K = valZ t fn w
def obsZG (n : Nat) (t : Tab) (fn : List He.DefD) (g : Addr → Option Obj) : He.AlT := obsZ t fn (He.frG g (He.asD g n))
def hookZ (n : Nat) (t : Tab) (fn : List He.DefD) : PySem.W.Hook where
  α := He.AlT
  obs := fun s => obsZG n t fn s.heap.get?
  val := fun w => valZ t fn w
  says := fun w h => ∃ K : PySem.W.Frag, K.In h ∧ SaysZ t fn w K
  of := fun _ _ e => ⟨_, He.frG_in, e⟩
  keeps := fun _ _ _ ⟨K, hK, c⟩ k => ⟨K, PySem.W.Frag.In.keeps hK k, c⟩
theorem obsZG_eq {n : Nat} {t : Tab} {fn : List He.DefD} {g : Addr → Option Obj} {s : Shared} (h : ∀ a, g a = s.heap.get? a) : obsZG n t fn g = (hookZ n t fn).obs s := by
  have e : g = s.heap.get? := funext h
  rw [e] <;> rfl
section
variable {t : Tab} {fn : List He.DefD} {w : World} {K : PySem.W.Frag}
theorem SaysZ.d (c : SaysZ t fn w K) : (t.ok K && fn.all fun d => d.ok K, fn.map fun d => He.fnW K d.at_) = He.valD fn := congrArg (fun z : He.AlT => z.1) c
theorem SaysZ.tab (c : SaysZ t fn w K) : t.ok K = true :=
  (He.ba (show (t.ok K && fn.all fun d => d.ok K) = true from congrArg (fun z : He.AlD => z.1) c.d)).1
theorem SaysZ.def_ (c : SaysZ t fn w K) (i : Nat) {d : He.DefD} (h : fn[i]? = some d := by rfl) : ∃ fd, FunD K d.name d.qual d.params d.body d.scope (d.dvs K) (d.kws K) (He.fAd K d.at_) fd := by
  have c2 := (He.ba (show (t.ok K && fn.all fun d => d.ok K) = true from congrArg (fun z : He.AlD => z.1) c.d)).2
  have e : fn.map (fun d => He.fnW K d.at_) = fn.map He.DefD.val := congrArg (fun z : He.AlD => z.2) c.d
  have e2 : (fn.map fun d => He.fnW K d.at_)[i]? = (fn.map He.DefD.val)[i]? := by rw [e]
  rw [List.getElem?_map, List.getElem?_map, h] at e2
  exact He.DefD.funD (Option.some.inj e2) (List.all_eq_true.mp c2 d (List.mem_of_getElem? h))
/-- a dict of the top -/
theorem SaysZ.dict (c : SaysZ t fn w K) (i : Nat) {x : Str} {kvs : List (Str × D)} (h : t.dts[i]? = some (x, kvs) := by rfl) : ∃ es n, KDict K w (He.ga K x) es n ∧ es.toList.map He.keyOf = He.keysIn w.params (kvs.map Prod.fst) := by
  have e : tabsK t K = tabsV t w := congrArg (fun z : He.AlT => z.2) c
  have e2 : (tabsK t K)[i]? = (tabsV t w)[i]? := by rw [e]
  unfold tabsK tabsV at e2
  rw [List.getElem?_map, List.getElem?_map, h] at e2
  have e3 : He.dicW K (He.ga K x) = some (He.keysIn w.params (kvs.map Prod.fst)) := Option.some.inj e2
  obtain ⟨es, n, q⟩ := He.dicW_ok e3
  refine ⟨es, n, q, ?_⟩
  unfold He.dicW at e3
  rw [q.at_] at e3
  dsimp only at e3
  rw [show (decide (("dict" : String) = "dict") && ((#[] : Array (Option Value)).isEmpty && !(He.ga K x == sysModules))) = true by rw [q.low]; rfl] at e3
  exact Option.some.inj e3
end
/-! ### the end -/
theorem quiet {P : Program} {w : World} {K : PySem.W.Frag} {mg : Str → Option Value} {base : Heap} {k : Nat} {f : Addr} {fd : FuncData} {ps : List Str} {sp : Sp} (F : FnOk P w K mg base (L2.CX P w) k f fd ps sp) :
    FnOk P w K mg base CX0 k f fd ps (fun vs H Q _ => sp vs H Q fun _ _ _ => False) :=
  ⟨fun vs H Q E h => F.len vs H Q _ h, fun A outer s H args us vs Q E hr he hb hv hs => codeAny_mono (F.run A outer s H args us vs Q (fun _ _ _ => False) hr he hb hv hs) fun r s' q => by
    cases r with
    | ok fl => cases fl <;> exact q
    | error e =>
      obtain ⟨_, _, _, _, _, _, _, _, _, _, _, _, z⟩ := q
      exact z.elim⟩
theorem law_sp {K : PySem.W.Frag} {mg : Str → Option Value} {F : MF} {H : Hp} {a : Addr} {ns : List Int} (hO : Only H) (hS : SqL K H a (ns.map V.int)) (h : ∃ h, F [.fz (ns.map .int)] [] = .ok (.bl true) h) :
    spF K mg 1 F [.ref a] H (fun v _ => v = .bl true) (fun _ _ _ => False) := by
  obtain ⟨h, e⟩ := h
  have hF : SqF K H a (ns.map V.int) := by
    rcases hS with (z | ⟨o, z⟩) | z
    · rcases hO a with q | ⟨o, xs, q⟩
      · rw [q] at z; cases z
      · rw [q] at z; cases z
    · exact .inl ⟨o, z⟩
    · exact .inr z
  have hL : ∀ l : List Int, RepL K ⟨[]⟩ H (l.map D.int) (l.map V.int) := fun l => by
    induction l with
    | nil => exact .nil
    | cons i l ih => exact .cons (.int i) ih
  refine ⟨rfl, ⟨[]⟩, [.fz (ns.map .int)], [], ⟨rfl, List.nodup_nil, fun n a o e1 _ => by simp at e1⟩, .cons (.fz hF (hL ns)) .nil, ?_⟩
  rw [e]
  intro ρ' v H' x r q
  cases q
  rfl
end Z
/-! Z11: the meanings, evaluated (a simp set). -/
namespace Z
open PySem PySem.Spec PyProof.Rows L2
section
variable {env : Ev} {h : IH} {ma mb mc : ME} {mt mt' : MT} {ms : MA} {m1 m2 : MS} {g : MG} {gs : MGs} {o o' : MO} {i j n : Nat} {d e : D} {ds : List D}
/-- a slot's value -/
def okV (h : IH) : D → R D
  | .xv => .stuck
  | d => .ok d h
def getV (h : IH) : Option (Option D) → R D
  | some (some d) => okV h d
  | _ => .stuck
@[simp] theorem okV_non : okV h .non = .ok .non h := rfl
@[simp] theorem okV_bl {b : Bool} : okV h (.bl b) = .ok (.bl b) h := rfl
@[simp] theorem okV_int {i : Int} : okV h (.int i) = .ok (.int i) h := rfl
@[simp] theorem okV_str {x : Str} : okV h (.str x) = .ok (.str x) h := rfl
@[simp] theorem okV_tup : okV h (.tup ds) = .ok (.tup ds) h := rfl
@[simp] theorem okV_fz : okV h (.fz ds) = .ok (.fz ds) h := rfl
@[simp] theorem okV_ref : okV h (.ref n) = .ok (.ref n) h := rfl
@[simp] theorem getV_some : getV h (some (some d)) = okV h d := rfl
@[simp] theorem getV_none : getV h (some none) = .stuck := rfl
@[simp] theorem varM_get : varM i env h = getV h env[i]? := by
  unfold varM getV
  split
  · rename_i e; rw [e]; rfl
  · rename_i d ne e
    rw [e]
    cases d <;> first | rfl | exact absurd rfl ne
  · rename_i h1 h2
    split
    · rename_i d e
      exact absurd e (h2 d)
    · rfl
theorem varM_eq : varM i env h = match env[i]? with
  | some (some .xv) => .stuck
  | some (some d) => .ok d h
  | _ => .stuck := rfl
@[simp] theorem constM_eq : constM d env h = .ok d h := rfl
@[simp] theorem binM_eq : binM o ma mb env h = (ma env h).bindG .exc .stuck fun x h1 => (mb env h1).bindG .exc .stuck fun y h2 => o x y h2 := rfl
@[simp] theorem anilM_eq : anilM env h = .ok [] h := rfl
@[simp] theorem aconsM_eq : aconsM ma ms env h = (ma env h).bindG .exc .stuck fun d h => (ms env h).bindG .exc .stuck fun ds h => .ok (d :: ds) h := rfl
theorem le_line {n : Nat} (h : n ≤ 16777216) : n ≤ sizeLine := by rw [sizeLine_eq]; exact h
theorem tupM_eq : tupM ms env h = (ms env h).bindG .exc .stuck fun ds h => if ds.length ≤ sizeLine then .ok (.tup ds) h else .stuck := rfl
theorem lstM_eq : lstM ms env h = (ms env h).bindG .exc .stuck fun ds h => if ds.length ≤ sizeLine then newL h ds else .stuck := rfl
theorem newL_eq : newL h ds = .ok (.ref h.length) (h ++ [.lst ds]) := rfl
@[simp] theorem sizeLine_is : sizeLine = 16777216 := sizeLine_eq
@[simp] theorem testM_eq : testM ma env h = (ma env h).bindG .exc .stuck fun d h => match truB h d with
  | some b => .ok b h
  | none => .stuck := rfl
@[simp] theorem btestM_eq : btestM ma env h = (ma env h).bindG .exc .stuck fun d h => match d with
  | .bl b => .ok b h
  | _ => .stuck := rfl
@[simp] theorem tnotM_eq : tnotM mt env h = (mt env h).bindG .exc .stuck fun b h => .ok (!b) h := rfl
@[simp] theorem tandM_eq : tandM mt mt' env h = (mt env h).bindG .exc .stuck fun b h => if b = true then mt' env h else .ok false h := rfl
@[simp] theorem torM_eq : torM mt mt' env h = (mt env h).bindG .exc .stuck fun b h => if b = true then .ok true h else mt' env h := rfl
@[simp] theorem andM_eq : andM ma mb env h = (ma env h).bindG .exc .stuck fun d h => match truB h d with
  | some true => mb env h
  | some false => .ok d h
  | none => .stuck := rfl
@[simp] theorem orM_eq : orM ma mb env h = (ma env h).bindG .exc .stuck fun d h => match truB h d with
  | some true => .ok d h
  | some false => mb env h
  | none => .stuck := rfl
@[simp] theorem notM_eq : notM ma env h = (ma env h).bindG .exc .stuck fun d h => match truB h d with
  | some b => .ok (.bl (!b)) h
  | none => .stuck := rfl
@[simp] theorem iteM_eq : iteM mt ma mb env h = (mt env h).bindG .exc .stuck fun b h => if b = true then ma env h else mb env h := rfl
@[simp] theorem negM_eq : negM ma env h = (ma env h).bindG .exc .stuck fun d h => match d with
  | .int i => .ok (.int (-i)) h
  | _ => .stuck := rfl
@[simp] theorem chainM_eq : chainM o o' ma mb mc env h = (ma env h).bindG .exc .stuck fun x h => (mb env h).bindG .exc .stuck fun y h => (o x y h).bindG .exc .stuck fun z h => chain2 o' mc env y z h := rfl
@[simp] theorem chain2_t : chain2 o' mc env d (.bl true) h = (mc env h).bindG .exc .stuck fun w h => o' d w h := rfl
@[simp] theorem chain2_f : chain2 o' mc env d (.bl false) h = .ok (.bl false) h := rfl
@[simp] theorem callM_eq {F : MF} : callM F ms env h = (ms env h).bindG .exc .stuck fun ds h => F ds h := rfl
@[simp] theorem seqM_eq : seqM m1 m2 env h = match m1 env h with
  | .nx e h => m2 e h
  | .rt d h => .rt d h
  | .bk e h => .bk e h
  | .ct e h => .ct e h
  | .exc x e h => .exc x e h
  | .stuck => .stuck := rfl
@[simp] theorem nextM_eq : nextM env h = .nx env h := rfl
@[simp] theorem brkM_eq : brkM env h = .bk env h := rfl
@[simp] theorem contM_eq : contM env h = .ct env h := rfl
@[simp] theorem exprM_eq : exprM ma env h = (ma env h).bindG (fun x h => .exc x env h) .stuck fun _ h => .nx env h := rfl
@[simp] theorem retM_eq : retM ma env h = (ma env h).bindG (fun x h => .exc x env h) .stuck fun d h => .rt d h := rfl
@[simp] theorem retNM_eq : retNM env h = .rt .non h := rfl
@[simp] theorem ifM_eq : ifM mt m1 m2 env h = (mt env h).bindG (fun x h => .exc x env h) .stuck fun b h => if b = true then m1 env h else m2 env h := rfl
@[simp] theorem setM_eq : setM i ma env h = (ma env h).bindG (fun x h => .exc x env h) .stuck fun d h => .nx (env.set i (some d)) h := rfl
@[simp] theorem asgM_eq : asgM g ma env h = (ma env h).bindG (fun x h => .exc x env h) .stuck fun d h => match g d env with
  | some env => .nx env h
  | none => .stuck := rfl
@[simp] theorem gnameM_eq : gnameM i d env = some (env.set i (some d)) := rfl
@[simp] theorem gnilM_eq : gnilM [] env = some env := rfl
@[simp] theorem gconsM_eq : gconsM g gs (d :: ds) env = (g d env).bind fun env => gs ds env := rfl
@[simp] theorem gtupM_eq : gtupM n gs (.tup ds) env = if ds.length = n then gs ds env else none := rfl
@[simp] theorem parM_eq : parM i j ms env h = (ms env h).bindG (fun x h => .exc x env h) .stuck fun ds h => match ds with
  | [d, e] => .nx ((env.set i (some d)).set j (some e)) h
  | _ => .stuck := rfl
@[simp] theorem putM_eq {p : MP} : putM p ma mb mc env h = (mc env h).bindG (fun x h => .exc x env h) .stuck fun d h => (ma env h).bindG (fun x h => .exc x env h) .stuck fun o h => (mb env h).bindG (fun x h => .exc x env h) .stuck fun i h => match p o i d h with
  | some h => .nx env h
  | none => .stuck := rfl
@[simp] theorem raiseM_eq {x : Str} {fs : List Str} : raiseM x fs ms env h = (ms env h).bindG (fun x h => .exc x env h) .stuck fun ds h => if ds.length = fs.length ∧ fs.length ≤ 900 then .exc ⟨x, (fs.zip ds).reverse⟩ env h else .stuck := rfl
@[simp] theorem forM_eq {mi : MI} : forM mi g m1 env h = (mi env h).bindG (fun x h => .exc x env h) .stuck fun s h => match s with
  | .snap ds => forS g m1 ds env h
  | .live v => forV g m1 v LOOP 0 env h := rfl
@[simp] theorem rngI1_eq : rngI1 ms env h = (ms env h).bindG .exc .stuck fun ds h => match ds with
  | [.int j] => if Rng j then .ok (.snap (rngD 0 j.toNat)) h else .stuck
  | _ => .stuck := rfl
@[simp] theorem rngI2_eq : rngI2 ms env h = (ms env h).bindG .exc .stuck fun ds h => match ds with
  | [.int i, .int j] => if Rng i ∧ Rng j then .ok (.snap (rngD i (j - i).toNat)) h else .stuck
  | _ => .stuck := rfl
@[simp] theorem seqI_eq : seqI ma env h = (ma env h).bindG .exc .stuck fun d h => match srcOf h d with
  | some s => .ok s h
  | none => .stuck := rfl
@[simp] theorem srcOf_tup : srcOf h (.tup ds) = some (.snap ds) := rfl
@[simp] theorem srcOf_fz : srcOf h (.fz ds) = some (.snap ds) := rfl
@[simp] theorem forS_nil : forS g m1 [] env h = .nx env h := rfl
@[simp] theorem forS_cons : forS g m1 (d :: ds) env h = turnM g m1 d env h (forS g m1 ds) := rfl
@[simp] theorem turnM_eq {k : Ev → IH → RS} : turnM g m1 d env h k = match g d env with
  | none => .stuck
  | some e => match m1 e h with
    | .nx e h => k e h
    | .ct e h => k e h
    | .bk e h => .nx e h
    | .rt d h => .rt d h
    | .exc x e h => .exc x e h
    | .stuck => .stuck := rfl
@[simp] theorem tryM_eq {sub : Str → Str → Option Bool} {k : Option Nat} {hs : List (Str × (Exc → MS))} : tryM sub k m1 hs env h = match m1 env h with
  | .exc x e h => catchM sub k hs x e h
  | .nx e h => .nx e h
  | .rt d h => .rt d h
  | .bk e h => .bk e h
  | .ct e h => .ct e h
  | .stuck => .stuck := by unfold tryM; cases m1 env h <;> rfl
@[simp] theorem catchM_cons {sub : Str → Str → Option Bool} {k : Option Nat} {c : Str} {mh : Exc → MS} {hs : List (Str × (Exc → MS))} {x : Exc} : catchM sub k ((c, mh) :: hs) x env h = match sub x.cls c with
  | some true => endX k (mh x (begX k env) h)
  | some false => catchM sub k hs x env h
  | none => .stuck := rfl
@[simp] theorem catchM_nil {sub : Str → Str → Option Bool} {k : Option Nat} {x : Exc} : catchM sub k [] x env h = .exc x env h := rfl
@[simp] theorem begX_some : begX (some i) env = env.set i (some .xv) := rfl
@[simp] theorem begX_none : begX none env = env := rfl
@[simp] theorem endX_nx {k : Option Nat} : endX k (.nx env h) = .nx ((unsetO k env).map clr) h := rfl
@[simp] theorem endX_rt {k : Option Nat} : endX k (.rt d h) = .rt d h := rfl
@[simp] theorem endX_bk {k : Option Nat} : endX k (.bk env h) = .bk ((unsetO k env).map clr) h := rfl
@[simp] theorem endX_ct {k : Option Nat} : endX k (.ct env h) = .ct ((unsetO k env).map clr) h := rfl
@[simp] theorem unsetO_some : unsetO (some i) env = env.set i none := rfl
@[simp] theorem unsetO_none : unsetO none env = env := rfl
@[simp] theorem clr_none : clr none = none := rfl
@[simp] theorem clr_int {k : Int} : clr (some (.int k)) = some (.int k) := rfl
@[simp] theorem clr_bl {k : Bool} : clr (some (.bl k)) = some (.bl k) := rfl
@[simp] theorem clr_tup : clr (some (.tup ds)) = some (.tup ds) := rfl
@[simp] theorem clr_ref : clr (some (.ref n)) = some (.ref n) := rfl
@[simp] theorem clr_str {x : Str} : clr (some (.str x)) = some (.str x) := rfl
@[simp] theorem clr_xv : clr (some .xv) = none := rfl
@[simp] theorem finM_nx : finM (.nx env h) = .ok .non h := rfl
@[simp] theorem finM_rt : finM (.rt d h) = .ok d h := rfl
@[simp] theorem finM_exc {x : Exc} : finM (.exc x env h) = .exc x h := rfl
@[simp] theorem xfM_eq {fok : Str → Str → Bool} {x : Exc} {f : Str} : xfM fok i x f env h = match env[i]? with
  | some (some .xv) => if fok x.cls f = true then (match x.fs.lookup f with
    | some v => .ok v h
    | none => .stuck) else .stuck
  | _ => .stuck := rfl
@[simp] theorem isxM_eq {isub : Str → Str → Option Bool} {x : Exc} {y : Str} : isxM isub i x y env h = match env[i]? with
  | some (some .xv) => (match isub x.cls y with
    | some b => .ok (.bl b) h
    | none => .stuck)
  | _ => .stuck := rfl
/-! values -/
@[simp] theorem truB_bl {b : Bool} : truB h (.bl b) = some b := rfl
@[simp] theorem truB_int {k : Int} : truB h (.int k) = some (k != 0) := rfl
@[simp] theorem truB_non : truB h .non = some false := rfl
@[simp] theorem truB_tup : truB h (.tup ds) = some (!ds.isEmpty) := rfl
@[simp] theorem tyN_non : tyN h .non = some "NoneType" := rfl
@[simp] theorem tyN_bl {b : Bool} : tyN h (.bl b) = some "bool" := rfl
@[simp] theorem tyN_int {k : Int} : tyN h (.int k) = some "int" := rfl
@[simp] theorem tyN_str {x : Str} : tyN h (.str x) = some "str" := rfl
@[simp] theorem tyN_tup : tyN h (.tup ds) = some "tuple" := rfl
@[simp] theorem tyN_fz : tyN h (.fz ds) = some "list" := rfl
theorem tyN_ref {xs : List D} (e : h[n]? = some (.lst xs)) : tyN h (.ref n) = some "list" := by unfold tyN; simp only [e]
@[simp] theorem isiM_eq {T : String} : isiM T ma env h = (ma env h).bindG .exc .stuck fun d h => match (tyN h d).bind fun n => kitB n T with
  | some b => .ok (.bl b) h
  | none => .stuck := rfl
@[simp] theorem kit_non_bool : kitB "NoneType" "bool" = some false := by decide +kernel
@[simp] theorem kit_non_list : kitB "NoneType" "list" = some false := by decide +kernel
@[simp] theorem kit_bool_list : kitB "bool" "list" = some false := by decide +kernel
@[simp] theorem kit_str_list : kitB "str" "list" = some false := by decide +kernel
@[simp] theorem kit_tup_bool : kitB "tuple" "bool" = some false := by decide +kernel
@[simp] theorem kit_list_bool : kitB "list" "bool" = some false := by decide +kernel
@[simp] theorem kit_int_int : kitB "int" "int" = some true := by decide +kernel
@[simp] theorem kit_int_bool : kitB "int" "bool" = some false := by decide +kernel
@[simp] theorem kit_bool_int : kitB "bool" "int" = some true := by decide +kernel
@[simp] theorem kit_bool_bool : kitB "bool" "bool" = some true := by decide +kernel
@[simp] theorem kit_tup_tup : kitB "tuple" "tuple" = some true := by decide +kernel
@[simp] theorem kit_int_tup : kitB "int" "tuple" = some false := by decide +kernel
@[simp] theorem kit_non_tup : kitB "NoneType" "tuple" = some false := by decide +kernel
@[simp] theorem kit_list_tup : kitB "list" "tuple" = some false := by decide +kernel
@[simp] theorem kit_str_tup : kitB "str" "tuple" = some false := by decide +kernel
@[simp] theorem kit_bool_tup : kitB "bool" "tuple" = some false := by decide +kernel
@[simp] theorem kit_str_int : kitB "str" "int" = some false := by decide +kernel
@[simp] theorem kit_str_bool : kitB "str" "bool" = some false := by decide +kernel
@[simp] theorem kit_tup_int : kitB "tuple" "int" = some false := by decide +kernel
@[simp] theorem kit_non_int : kitB "NoneType" "int" = some false := by decide +kernel
@[simp] theorem kit_list_int : kitB "list" "int" = some false := by decide +kernel
@[simp] theorem kit_list_list : kitB "list" "list" = some true := by decide +kernel
@[simp] theorem kit_str_str : kitB "str" "str" = some true := by decide +kernel
@[simp] theorem kit_int_str : kitB "int" "str" = some false := by decide +kernel
@[simp] theorem kit_non_str : kitB "NoneType" "str" = some false := by decide +kernel
@[simp] theorem kit_tup_str : kitB "tuple" "str" = some false := by decide +kernel
@[simp] theorem kit_list_str : kitB "list" "str" = some false := by decide +kernel
@[simp] theorem kit_bool_str : kitB "bool" "str" = some false := by decide +kernel
@[simp] theorem kit_tup_list : kitB "tuple" "list" = some false := by decide +kernel
@[simp] theorem kit_int_list : kitB "int" "list" = some false := by decide +kernel
/-! operators on ints -/
variable {x y : Int}
@[simp] theorem subM_int : subM (.int x) (.int y) h = .ok (.int (x - y)) h := by simp [subM, intM]
@[simp] theorem addM_int : addM (.int x) (.int y) h = .ok (.int (x + y)) h := rfl
@[simp] theorem ltM_int : ltM (.int x) (.int y) h = .ok (.bl (decide (x < y))) h := rfl
@[simp] theorem leM_int : leM (.int x) (.int y) h = .ok (.bl (decide (x ≤ y))) h := rfl
@[simp] theorem gtM_int : gtM (.int x) (.int y) h = .ok (.bl (decide (y < x))) h := rfl
@[simp] theorem geM_int : geM (.int x) (.int y) h = .ok (.bl (decide (y ≤ x))) h := rfl
theorem mulM_int (c : small x y) : mulM (.int x) (.int y) h = .ok (.int (x * y)) h := if_pos c
theorem fdivM_int (h0 : y ≠ 0) (c : y.natAbs.log2 < 9000) : fdivM (.int x) (.int y) h = .ok (.int (x.fdiv y)) h := if_pos (show y ≠ 0 ∧ _ from ⟨h0, c⟩)
theorem modM_int (h0 : y ≠ 0) : modM (.int x) (.int y) h = .ok (.int (x.fmod y)) h := if_pos h0
theorem powM_int (c : 0 ≤ y ∧ y ≤ 1000000 ∧ x.natAbs < 2 ^ 64) : powM (.int x) (.int y) h = .ok (.int (x ^ y.toNat)) h := if_pos c
theorem eqv_int {x y : Int} : PyData.eqv (.int x) (.int y) = decide (x = y) := by
  show (x == y) = _
  by_cases c : x = y <;> simp [c]
@[simp] theorem shaped_int {x : Int} : SeqAt.shaped (.int x) = true := by rfl
@[simp] theorem eqB_int : eqB h (.int x) (.int y) = some (decide (x = y)) := by
  show (if SeqAt.shaped (.int x) = true ∧ SeqAt.shaped (.int y) = true then some (PyData.eqv (.int x) (.int y)) else none) = _
  rw [if_pos ⟨shaped_int, shaped_int⟩, eqv_int]
@[simp] theorem eqM_int : eqM (.int x) (.int y) h = .ok (.bl (decide (x = y))) h := by simp [eqM]
@[simp] theorem neM_int : neM (.int x) (.int y) h = .ok (.bl (!decide (x = y))) h := by simp [neM]
theorem eqB_str {x y : Str} (hx : SeqAt.shaped (.str x) = true) (hy : SeqAt.shaped (.str y) = true) : eqB h (.str x) (.str y) = some (x == y) := by
  show (if SeqAt.shaped (.str x) = true ∧ SeqAt.shaped (.str y) = true then some (PyData.eqv (.str x) (.str y)) else none) = _
  rw [if_pos ⟨hx, hy⟩]
  rfl
theorem eqM_str {x y : Str} (hx : SeqAt.shaped (.str x) = true) (hy : SeqAt.shaped (.str y) = true) : eqM (.str x) (.str y) h = .ok (.bl (x == y)) h := by
  unfold eqM
  rw [eqB_str hx hy]
@[simp] theorem isM_bl {n a b : Bool} : isM n (.bl a) (.bl b) h = .ok (.bl (xor n (a == b))) h := rfl
@[simp] theorem isM_nn {n : Bool} : isM n .non .non h = .ok (.bl (!n)) h := rfl
@[simp] theorem isM_in {n : Bool} : isM n (.int x) .non h = .ok (.bl n) h := rfl
@[simp] theorem isM_tn {n : Bool} : isM n (.tup ds) .non h = .ok (.bl n) h := rfl
@[simp] theorem isM_rn {n : Bool} {k : Nat} : isM n (.ref k) .non h = .ok (.bl n) h := rfl
@[simp] theorem isM_sn {n : Bool} {x : Str} : isM n (.str x) .non h = .ok (.bl n) h := rfl
@[simp] theorem lenF_tup : lenF [.tup ds] h = .ok (.int ds.length) h := rfl
@[simp] theorem lenF_fz : lenF [.fz ds] h = .ok (.int ds.length) h := rfl
theorem lenF_ref {xs : List D} (e : h[n]? = some (.lst xs)) : lenF [.ref n] h = .ok (.int xs.length) h := by unfold lenF; simp only [e]
@[simp] theorem absF_int : absF [.int x] h = .ok (.int (if x < 0 then -x else x)) h := rfl
@[simp] theorem intF_int : intF [.int x] h = .ok (.int x) h := rfl
@[simp] theorem intF_bl {b : Bool} : intF [.bl b] h = .ok (.int (if b then 1 else 0)) h := rfl
@[simp] theorem gcdF_int : gcdF [.int x, .int y] h = .ok (.int ((Nat.gcd x.natAbs y.natAbs : Nat) : Int)) h := rfl
theorem strF_int (c : x.natAbs.log2 < 1920) : strF [.int x] h = .ok (.str (toString x)) h := if_pos c
@[simp] theorem listF_fz : listF [.fz ds] h = .ok (.ref h.length) (h ++ [.lst ds]) := rfl
@[simp] theorem listF_tup : listF [.tup ds] h = .ok (.ref h.length) (h ++ [.lst ds]) := rfl
theorem ixM_ref {xs : List D} (e : h[n]? = some (.lst xs)) : ixM (.ref n) (.int x) h = match atI xs x with
  | some d => .ok d h
  | none => .stuck := by unfold ixM; simp only [e] <;> rfl
@[simp] theorem ixM_tup : ixM (.tup ds) (.int x) h = match atI ds x with
  | some d => .ok d h
  | none => .stuck := rfl
@[simp] theorem ixM_fz : ixM (.fz ds) (.int x) h = match atI ds x with
  | some d => .ok d h
  | none => .stuck := rfl
theorem setL_ref {xs : List D} (e : h[n]? = some (.lst xs)) : setL (.ref n) (.int x) d h = (ixN xs.length x).map fun j => h.set n (.lst (xs.set j d)) := by unfold setL; simp only [e]
theorem atI_of {α : Type} {xs : List α} {k : Nat} {x : α} (e : xs[k]? = some x) : atI xs (k : Int) = some x := by
  unfold atI ixN
  have := (List.getElem?_eq_some_iff.mp e).1
  rw [if_pos (by omega), if_pos (by omega)]
  exact e
@[simp] theorem atI_0 {α : Type} {a : α} {xs : List α} : atI (a :: xs) 0 = some a := by
  unfold atI ixN
  rw [if_pos (by decide), if_pos (by simp only [List.length_cons]; omega)] <;> rfl
@[simp] theorem atI_1 {α : Type} {a b : α} {xs : List α} : atI (a :: b :: xs) 1 = some b := by
  unfold atI ixN
  rw [if_pos (by decide), if_pos (by simp only [List.length_cons]; omega)] <;> rfl
@[simp] theorem atI_2 {α : Type} {a b c : α} {xs : List α} : atI (a :: b :: c :: xs) 2 = some c := by
  unfold atI ixN
  rw [if_pos (by decide), if_pos (by simp only [List.length_cons]; omega)] <;> rfl
/-! forgetting -/
@[simp] theorem trunc_stuck : trunc h .stuck = .stuck := rfl
open Classical in
theorem trunc_ok {h' : IH} : trunc h (.ok d h') = if d.lt h.length = true ∧ h'.take h.length = h then .ok d h else .ok d h' := rfl
open Classical in
theorem trunc_exc {x : Exc} {h' : IH} : trunc h (.exc x h') = if x.lt h.length = true ∧ h'.take h.length = h then .exc x h else .exc x h' := rfl
theorem trunc_len {h' : IH} (e : h'.length = h.length) : trunc h (.ok d h') = .ok d h' := by
  rw [trunc_ok]
  split
  · rename_i c
    have c2 := c.2
    rw [← e, List.take_length] at c2
    rw [c2]
  · rfl
@[simp] theorem trunc_same : trunc h (.ok d h) = .ok d h := trunc_len rfl
@[simp] theorem trunc_excs {x : Exc} : trunc h (.exc x h) = .exc x h := by rw [trunc_exc]; split <;> rfl
theorem trunc_app {g : IH} (c : d.lt h.length = true) : trunc h (.ok d (h ++ g)) = .ok d h := by
  rw [trunc_ok, if_pos ⟨c, by simp⟩]
theorem trunc_new {h' : IH} {k : Nat} (c : h.length ≤ k) : trunc h (.ok (.ref k) h') = .ok (.ref k) h' := by
  rw [trunc_ok, if_neg]
  rintro ⟨c1, _⟩
  have := of_decide_eq_true c1
  omega
@[simp] theorem lt_int : (D.int x).lt n = true := rfl
@[simp] theorem lt_bl {b : Bool} : (D.bl b).lt n = true := rfl
@[simp] theorem lt_non : D.non.lt n = true := rfl
@[simp] theorem lt_str {z : Str} : (D.str z).lt n = true := rfl
@[simp] theorem lt_tup : (D.tup ds).lt n = D.ltL n ds := rfl
@[simp] theorem ltL_nil : D.ltL n [] = true := rfl
@[simp] theorem ltL_cons : D.ltL n (d :: ds) = (d.lt n && D.ltL n ds) := rfl
end
end Z
/-! Z12: comprehensions of one clause; more built-in functions; in; slices; methods of lists; constants of the module. -/
namespace Z
open PySem PySem.Spec PyProof.Rows L2
/-! ### without the heap's own changes -/
section
variable {K : PySem.W.Frag} {ρ ρ' : Rho} {H H' : Hp}
structure Mon (ρ : Rho) (H : Hp) (ρ' : Rho) (H' : Hp) : Prop where
  get : ∀ (n : Nat) (a : Addr), ρ.as[n]? = some a → ρ'.as[n]? = some a
  tups : ∀ a xs, H a = some (.tup xs) → H' a = some (.tup xs)
  frzs : ∀ a o u, H a = some (.frz o u) → H' a = some (.frz o u)
theorem Mon.sqT (x : Mon ρ H ρ' H') {a : Addr} {vs : List V} (h : SqT K H a vs) : SqT K H' a vs := by
  rcases h with (h | ⟨o, h⟩) | h
  · exact .inl (.inl (x.tups _ _ h))
  · exact .inl (.inr ⟨o, x.frzs _ _ _ h⟩)
  · exact .inr h
theorem Mon.sqF (x : Mon ρ H ρ' H') {a : Addr} {vs : List V} (h : SqF K H a vs) : SqF K H' a vs := by
  rcases h with ⟨o, h⟩ | h
  · exact .inl ⟨o, x.frzs _ _ _ h⟩
  · exact .inr h
mutual
theorem RepV.mon (x : Mon ρ H ρ' H') : ∀ (d : D) (v : V), RepV K ρ H d v → RepV K ρ' H' d v
  | .non, _, h => by cases h; exact .non
  | .bl _, _, h => by cases h; exact .bl _
  | .int _, _, h => by cases h; exact .int _
  | .str _, _, h => by cases h; exact .str _
  | .tup ds, _, h => by
    cases h with
    | tup h1 h2 => exact .tup (x.sqT h1) (RepL.mon x ds _ h2)
  | .ref n, _, h => by
    cases h with
    | ref h1 => exact .ref (x.get _ _ h1)
  | .fz ds, _, h => by
    cases h with
    | fz h1 h2 => exact .fz (x.sqF h1) (RepL.mon x ds _ h2)
  | .xv, _, h => by cases h
theorem RepL.mon (x : Mon ρ H ρ' H') : ∀ (ds : List D) (vs : List V), RepL K ρ H ds vs → RepL K ρ' H' ds vs
  | [], _, h => by cases h; exact .nil
  | d :: ds, _, h => by
    cases h with
    | cons h1 h2 => exact .cons (RepV.mon x d _ h1) (RepL.mon x ds _ h2)
end
theorem RepF.mon (x : Mon ρ H ρ' H') : ∀ {ds : List (Str × D)} {vs : List (Str × V)}, RepF K ρ H ds vs → RepF K ρ' H' ds vs
  | _, _, .nil => .nil
  | _, _, .cons r t => .cons (RepV.mon x _ _ r) (RepF.mon x t)
theorem RepK.mon {κ : Type} {f : κ → D} (x : Mon ρ H ρ' H') : ∀ {ds : List (D × D)} {vs : List (κ × V)}, RepK K ρ H f ds vs → RepK K ρ' H' f ds vs
  | _, _, .nil => .nil
  | _, _, .cons r t => .cons (RepV.mon x _ _ r) (RepK.mon x t)
theorem RepO.mon (x : Mon ρ H ρ' H') {a : Addr} (ha : H' a = H a) : ∀ {o : IO}, RepO K ρ H a o → RepO K ρ' H' a o
  | .lst xs, ⟨vs, e, r⟩ => ⟨vs, ha.trans e, r.mon x⟩
  | .dic _, h => h.elim (fun ⟨m, e, r⟩ => .inl ⟨m, ha.trans e, r.mon x⟩) fun ⟨m, e, r⟩ => .inr ⟨m, ha.trans e, r.mon x⟩
  | .ins _ _, ⟨dx, vs, e, r⟩ => ⟨dx, vs, ha.trans e, r.mon x⟩
variable {ih : IH} {a : Addr} {us vs : List V}
/-- a list aside is written -/
theorem Mon.put (hl : H a = some (.lst us)) : Mon ρ H ρ (upd H a (.lst vs)) := ⟨fun _ _ h => h, fun b u e => by rw [upd_ne (by rintro rfl; rw [hl] at e; cases e)]; exact e, fun b u v e => by rw [upd_ne (by rintro rfl; rw [hl] at e; cases e)]; exact e⟩
theorem RelH.put (r : RelH K ρ ih H) (hl : H a = some (.lst us)) (ha : a ∉ ρ.as) : RelH K ρ ih (upd H a (.lst vs)) :=
  ⟨r.len, r.nd, fun n b o e1 e2 => (r.obj n b o e1 e2).mon (Mon.put hl) (upd_ne (by rintro rfl; exact ha (List.mem_of_getElem? e1)))⟩
/-- .. and is made one of ours -/
theorem RelH.own (r : RelH K ρ ih H) (hl : H a = some (.lst vs)) (ha : a ∉ ρ.as) {ds : List D} (hr : RepL K ρ H ds vs) : RelH K ⟨ρ.as ++ [a]⟩ (ih ++ [.lst ds]) H := by
  have m : Mon ρ H ⟨ρ.as ++ [a]⟩ H := ⟨fun n b e => by
    show (ρ.as ++ [a])[n]? = some b
    rw [List.getElem?_append_left (List.getElem?_eq_some_iff.mp e).1]; exact e, fun _ _ e => e, fun _ _ _ e => e⟩
  refine ⟨by simp [r.len], List.nodup_append.mpr ⟨r.nd, by simp, fun b hb c hc => by rw [List.mem_singleton.mp hc]; rintro rfl; exact ha hb⟩, fun n b o e1 e2 => ?_⟩
  by_cases hn : n < ih.length
  · have e1 : (ρ.as ++ [a])[n]? = some b := e1
    rw [List.getElem?_append_left (by rw [r.len]; exact hn)] at e1
    rw [List.getElem?_append_left hn] at e2
    exact (r.obj n b o e1 e2).mon m rfl
  · have hl2 : n < (ih ++ [IO.lst ds]).length := (List.getElem?_eq_some_iff.mp e2).1
    have en : n = ih.length := by simp at hl2; omega
    subst en
    have q1 : (ρ.as ++ [a])[ih.length]? = some a := by rw [← r.len]; simp
    have e1' : (ρ.as ++ [a])[ih.length]? = some b := e1
    rw [q1] at e1'; cases e1'
    have q2 : (ih ++ [IO.lst ds])[ih.length]? = some (.lst ds) := by simp
    rw [q2] at e2; cases e2
    exact ⟨vs, hl, hr.mon m⟩
end
/-! ### comprehensions -/
def wipeE : Ev → List Nat → Ev
  | e, [] => e
  | e, v :: vs => (wipeE e vs).set v none
theorem Rel.wipe {K : PySem.W.Frag} {xp : Option XP} {ρ : Rho} {env : Ev} {ih : IH} {σ : L2.St} {H : Hp} (r : Rel K xp ρ env ih σ H) : ∀ vs : List Nat, Rel K xp ρ (wipeE env vs) ih (L2.wipe σ vs) H
  | [] => r
  | v :: vs => (r.wipe vs).unset v
theorem wipe_set {σ : L2.St} {i : Nat} {o : Option V} : ∀ {vs : List Nat}, i ∈ vs → L2.wipe (σ.set i o) vs = L2.wipe σ vs
  | v :: vs, h => by
    show (L2.wipe (σ.set i o) vs).set v none = (L2.wipe σ vs).set v none
    by_cases hv : i ∈ vs
    · rw [wipe_set hv]
    · have : v = i := by
        rcases List.mem_cons.mp h with z | z
        · exact z.symm
        · exact absurd z hv
      subst this
      have aux : ∀ (ws : List Nat), (L2.wipe (σ.set v o) ws).set v none = (L2.wipe σ ws).set v none := fun ws => by
        induction ws with
        | nil => show ((σ.set v o).set v none) = σ.set v none; rw [List.set_set]
        | cons w ws ih =>
          show ((L2.wipe (σ.set v o) ws).set w none).set v none = ((L2.wipe σ ws).set w none).set v none
          by_cases c : w = v
          · subst c; rw [List.set_set, List.set_set, ih]
          · rw [List.set_comm _ _ c, List.set_comm _ _ c, ih]
      exact aux vs
theorem wipe_get {σ : L2.St} {j : Nat} : ∀ {vs : List Nat}, (L2.wipe σ vs)[j]? = if j ∈ vs then (σ[j]?).map (fun _ => none) else σ[j]?
  | [] => by simp [L2.wipe]
  | v :: vs => by
    show ((L2.wipe σ vs).set v none)[j]? = _
    rw [List.getElem?_set, wipe_get (vs := vs), L2.wipe_length]
    by_cases h : v = j
    · subst h
      by_cases hl : v < σ.length
      · simp [hl]
      · simp [hl, List.getElem?_eq_none_iff.mpr (Nat.le_of_not_lt hl)]
    · simp [h, Ne.symm h]
theorem wipe_idem {σ : L2.St} {vs : List Nat} : L2.wipe (L2.wipe σ vs) vs = L2.wipe σ vs := List.ext_getElem? fun j => by
  rw [wipe_get, wipe_get]
  by_cases h : j ∈ vs
  · simp [h, Function.comp_def]
  · simp [h]
abbrev Fam := Shared → Hp → Addr → List (Str × Addr) → List Addr → Cx
/-- the blocks of a comprehension -/
abbrev Blk (X : Cx) (scope : Scope) : Fam := fun s H C cl fp => X.blk s H scope (compEnvC scope cl C X.env) fp
/-- a target in every block: it touches the own slots alone -/
def SGF (xp : Option XP) (K : PySem.W.Frag) (B : Fam) (vs : List Nat) (tg : Expr) (g : MG) : Prop := ∃ t, (∀ s H C cl fp, PG (B s H C cl fp) tg t) ∧
  ∀ ρ env ih σ H Q d v env', Rel K xp ρ env ih σ H → RepV K ρ H d v → g d env = some env' → (∀ σ', Rel K xp ρ env' ih σ' H → L2.wipe σ' vs = L2.wipe σ vs → Q σ' H) → t v σ H Q
def SGsF (xp : Option XP) (K : PySem.W.Frag) (B : Fam) (vs : List Nat) (tgs : List Expr) (g : MGs) : Prop := ∃ t, (∀ s H C cl fp, PGs (B s H C cl fp) tgs t) ∧
  ∀ ρ env ih σ H Q ds us env', Rel K xp ρ env ih σ H → RepL K ρ H ds us → g ds env = some env' → (∀ σ', Rel K xp ρ env' ih σ' H → L2.wipe σ' vs = L2.wipe σ vs → Q σ' H) → t us σ H Q
section
variable {xp : Option XP} {X : Cx} {scope : Scope} {vs : List Nat} {pos : Pos}
theorem gf_name {i : Nat} {x : Str} (h : ∀ s H C cl fp, PG (Blk X scope s H C cl fp) (.Name x pos) (gName i)) (hi : i ∈ vs) : SGF xp X.K (Blk X scope) vs (.Name x pos) (gnameM i) := ⟨_, h, fun ρ env ih σ H Q d v env' rl rv e q => by
  cases e
  exact q _ (rl.set i rv) (wipe_set hi)⟩
theorem gsf_nil : SGsF xp X.K (Blk X scope) vs [] gnilM := ⟨_, fun _ _ _ _ _ => pgs_nil, fun ρ env ih σ H Q ds us env' rl rv e q => by
  cases rv with
  | nil => cases e; exact ⟨rfl, q σ rl rfl⟩
  | cons _ _ => cases e⟩
theorem gsf_cons {t : Expr} {ts : List Expr} {g : MG} {gs : MGs} (A : SGF xp X.K (Blk X scope) vs t g) (B : SGsF xp X.K (Blk X scope) vs ts gs)
    (hs : ∀ s H C cl fp, (assignEach (t :: ts) (Blk X scope s H C cl fp).env).map (·.2) = assign t (Blk X scope s H C cl fp).env :: (assignEach ts (Blk X scope s H C cl fp).env).map (·.2) := by intros; rfl) : SGsF xp X.K (Blk X scope) vs (t :: ts) (gconsM g gs) := by
  obtain ⟨ta, pa, ha⟩ := A
  obtain ⟨tb, pb, hb⟩ := B
  refine ⟨_, fun s H C cl fp => pgs_cons (pa s H C cl fp) (pb s H C cl fp) (hs s H C cl fp), fun ρ env ih σ H Q ds us env' rl rv e q => ?_⟩
  cases rv with
  | nil => cases e
  | cons r t =>
    obtain ⟨env1, e1, e2⟩ := Option.bind_eq_some_iff.mp e
    exact ⟨_, _, rfl, ha ρ env ih σ H _ _ _ env1 rl r e1 fun σ1 r1 w1 => hb ρ env1 ih σ1 H Q _ _ env' r1 t e2 fun σ2 r2 w2 => q σ2 r2 (w2.trans w1)⟩
theorem gf_tup {es : List Expr} {k n : Nat} {gs : MGs} (hc : X.calm = true) (h : SGsF xp X.K (Blk X scope) vs es gs) (hn : ∀ s H C cl fp, (assignEach es (Blk X scope s H C cl fp).env).length = n := by intros; rfl)
    (hst : ∀ s H C cl fp, (assignEach es (Blk X scope s H C cl fp).env).findIdx? (·.1) = none := by intros; rfl) : SGF xp X.K (Blk X scope) vs (.Tuple es k pos) (gtupM n gs) := by
  obtain ⟨ta, pa, ha⟩ := h
  refine ⟨gTup X.K n ta, fun s H C cl fp => pg_tup (X := Blk X scope s H C cl fp) hc (pa s H C cl fp) (hn s H C cl fp) (hst s H C cl fp), fun ρ env ih σ H Q d v env' rl rv e q => ?_⟩
  cases rv with
  | tup h1 h2 =>
    have e : (if _ then _ else _) = some env' := e
    split at e
    · rename_i c
      exact ⟨_, _, rfl, h1, by rw [← h2.length]; exact c, ha ρ env ih σ H Q _ _ env' rl h2 e q⟩
    · cases e
  | _ => cases e
/-- the reading that a meaning has, where nothing may be raised -/
def canE (K : PySem.W.Frag) (mg : Str → Option Value) (xp : Option XP) (m : ME) : TE := fun σ H Q => ∃ ρ env ih, Rel K xp ρ env ih σ H ∧ PostE K mg (fun _ _ _ _ => False) ρ σ H Q (m env ih)
def canT (K : PySem.W.Frag) (mg : Str → Option Value) (xp : Option XP) (m : MT) : TT := fun σ H Q => ∃ ρ env ih, Rel K xp ρ env ih σ H ∧ PostT K mg (fun _ _ _ _ => False) ρ σ H Q (m env ih)
theorem SE.can {Y : Cx} {e : Expr} {m : ME} (S : SE xp Y e m) : PE Y e (canE Y.K Y.mg xp m) := by
  obtain ⟨t, pt, ht⟩ := S (fun _ _ _ _ => False) takes0
  exact ⟨fun pins s σ H Q I ⟨ρ, env, ih, rl, post⟩ => pt.run pins s σ H Q I (ht ρ env ih σ H Q rl post)⟩
theorem ST.can {Y : Cx} {e : Expr} {m : MT} (S : ST xp Y e m) : PT Y e (canT Y.K Y.mg xp m) := by
  obtain ⟨t, pt, ht⟩ := S (fun _ _ _ _ => False) takes0
  exact ⟨fun pins s σ H Q I ⟨ρ, env, ih, rl, post⟩ => pt.run pins s σ H Q I (ht ρ env ih σ H Q rl post)⟩
/-- the tests of a clause -/
def STF (xp : Option XP) (K : PySem.W.Frag) (mg : Str → Option Value) (B : Fam) (ifs : List Expr) (m : MT) : Prop := ∃ t, (∀ s H C cl fp, PTs (B s H C cl fp) ifs t) ∧
  ∀ ρ env ih σ H Q, Rel K xp ρ env ih σ H → PostT K mg (fun _ _ _ _ => False) ρ σ H Q (m env ih) → t σ H Q
def yesM : MT := fun _ h => .ok true h
theorem tf_nil : STF xp X.K X.mg (Blk X scope) [] yesM := ⟨_, fun _ _ _ _ _ => pts_nil, fun ρ env ih σ H Q rl post => post ρ H .refl rl.hp⟩
theorem tf_one {c : Expr} {m : MT} (A : ∀ s H C cl fp, ST xp (Blk X scope s H C cl fp) c m) : STF xp X.K X.mg (Blk X scope) [c] m :=
  ⟨canT X.K X.mg xp m, fun s H C cl fp => pts_one (A s H C cl fp).can, fun ρ env ih σ H Q rl post => ⟨ρ, env, ih, rl, post⟩⟩
/-! the items made -/
def lcS (g : MG) (mt : MT) (me : ME) (env : Ev) : List D → IH → R (List D)
  | [], h => .ok [] h
  | d :: ds, h => match g d env with
    | none => .stuck
    | some e => (mt e h).bindG (fun _ _ => .stuck) .stuck fun b h => if b = true then (me e h).bindG (fun _ _ => .stuck) .stuck fun y h => (lcS g mt me env ds h).bind fun ys h => .ok (y :: ys) h else lcS g mt me env ds h
def lcV (g : MG) (mt : MT) (me : ME) (env : Ev) (view : IH → Option (List D)) : Nat → Nat → IH → R (List D)
  | 0, _, _ => .stuck
  | n + 1, i, h => match view h with
    | none => .stuck
    | some ds => match ds[i]? with
      | none => .ok [] h
      | some d => match g d env with
        | none => .stuck
        | some e => (mt e h).bindG (fun _ _ => .stuck) .stuck fun b h => if b = true then (me e h).bindG (fun _ _ => .stuck) .stuck fun y h => (lcV g mt me env view n (i + 1) h).bind fun ys h => .ok (y :: ys) h else lcV g mt me env view n (i + 1) h
/-- the most items that a comprehension walks -/
def MOST : Nat := 16777215
def lcM (mi : MI) (own : List Nat) (g : MG) (mt : MT) (me : ME) : ME := fun env h => (mi env h).bind fun s h => match s with
  | .snap ds => if ds.length ≤ MOST then (lcS g mt me (wipeE env own) ds h).bindG (fun _ _ => .stuck) .stuck fun ys h => newL h ys else .stuck
  | .live v => (lcV g mt me (wipeE env own) v MOST 0 h).bindG (fun _ _ => .stuck) .stuck fun ys h => newL h ys
/-- what is wanted of the items still to come -/
def Rest (K : PySem.W.Frag) (mg : Str → Option Value) (W : WX) (ρ : Rho) (σ : L2.St) (H : Hp) (Q : VK) (acc : List D) (r : R (List D)) : Prop := match r with
  | .ok ys h => ∀ ρ' v H', Ext ρ H ρ' H' → RelH K ρ' (h ++ [.lst (acc ++ ys)]) H' → RepV K ρ' H' (.ref h.length) v → Q v H'
  | _ => False
theorem Rest.cons {K : PySem.W.Frag} {mg : Str → Option Value} {W : WX} {ρ : Rho} {σ : L2.St} {H : Hp} {Q : VK} {acc : List D} {y : D} : ∀ {r : R (List D)}, Rest K mg W ρ σ H Q acc (r.bind fun ys h => .ok (y :: ys) h) → Rest K mg W ρ σ H Q (acc ++ [y]) r
  | .ok ys h, p => by
    have p' : ∀ ρ' v H', Ext ρ H ρ' H' → RelH K ρ' (h ++ [.lst (acc ++ (y :: ys))]) H' → RepV K ρ' H' (.ref h.length) v → Q v H' := p
    show ∀ ρ' v H', Ext ρ H ρ' H' → RelH K ρ' (h ++ [.lst (acc ++ [y] ++ ys)]) H' → RepV K ρ' H' (.ref h.length) v → Q v H'
    rw [List.append_assoc]
    exact p'
  | .exc _ _, p => p
  | .stuck, p => p
/-- a turn of a comprehension -/
theorem lc_turn {W : WX} {tg : TG} {tt : TT} {g : MG} {mt : MT} {me : ME} {ρ0 ρ : Rho} {env : Ev} {ih : IH} {σ : L2.St} {H0 H : Hp} {Q : VK} {acc : List D} {av : List V} {D' : Addr} {d : D} {v : V} {k : IH → R (List D)} {N : Hp → Prop} {i : Nat}
    (hg : ∀ ρ env ih σ H Q d v env', Rel X.K xp ρ env ih σ H → RepV X.K ρ H d v → g d env = some env' → (∀ σ', Rel X.K xp ρ env' ih σ' H → L2.wipe σ' vs = L2.wipe σ vs → Q σ' H) → tg v σ H Q)
    (ht : ∀ ρ env ih σ H Q, Rel X.K xp ρ env ih σ H → PostT X.K X.mg (fun _ _ _ _ => False) ρ σ H Q (mt env ih) → tt σ H Q)
    (rl : Rel X.K xp ρ env ih (L2.wipe σ vs) H) (x0 : Ext ρ0 H0 ρ H) (hD0 : H0 D' = none) (hD : H D' = some (.lst av)) (hDρ : D' ∉ ρ.as) (ra : RepL X.K ρ H acc av) (hi : acc.length ≤ i) (hm : i < MOST) (rv : RepV X.K ρ H d v)
    (post : Rest X.K X.mg W ρ0 σ H0 Q acc (match g d env with
      | none => .stuck
      | some e => (mt e ih).bindG (fun _ _ => .stuck) .stuck fun b h => if b = true then (me e h).bindG (fun _ _ => .stuck) .stuck fun y h => (k h).bind fun ys h => .ok (y :: ys) h else k h))
    (hN : ∀ ρ ih H acc av, Ext ρ0 H0 ρ H → RelH X.K ρ ih H → H D' = some (.lst av) → D' ∉ ρ.as → RepL X.K ρ H acc av → acc.length ≤ i + 1 → Rest X.K X.mg W ρ0 σ H0 Q acc (k ih) → N H) 
    (keepE : ∀ {ρ' : Rho} {H' : Hp}, Ext ρ H ρ' H' → D' ∉ ρ'.as ∧ H' D' = some (.lst av)) :
    tg v (L2.wipe σ vs) H fun σ2 H2 => L2.wipe σ2 vs = L2.wipe σ vs ∧ tt σ2 H2 fun b H3 => if b = true then canE X.K X.mg xp me σ2 H3 fun y H4 => ∃ acc, H4 D' = some (.lst acc) ∧ acc.length < sizeLine ∧ N (upd H4 D' (.lst (acc ++ [y]))) else N H3 := by
  split at post
  · exact post.elim
  · rename_i e q
    refine hg ρ env ih _ H _ d v e rl rv q fun σ1 r1 w1 => ⟨w1.trans wipe_idem, ht ρ e ih σ1 H _ r1 ?_⟩
    revert post
    cases hmt : mt e ih with
    | exc x h => exact fun post => post.elim
    | stuck => exact fun post => post.elim
    | ok b h1 =>
      intro post ρ1 H1 x1 rh1
      obtain ⟨hD1, hv1⟩ := keepE x1
      cases b with
      | false => exact hN ρ1 h1 H1 acc av (x0.trans x1) rh1 hv1 hD1 (ra.ext x1) (by omega) post
      | true =>
        have rl1 := r1.next x1 rh1
        refine ⟨ρ1, e, h1, rl1, ?_⟩
        have post : Rest X.K X.mg W ρ0 σ H0 Q acc ((me e h1).bindG (fun _ _ => .stuck) .stuck fun y h => (k h).bind fun ys h => .ok (y :: ys) h) := post
        revert post
        cases hme : me e h1 with
        | exc x h => exact fun post => post.elim
        | stuck => exact fun post => post.elim
        | ok y h2 =>
          intro post ρ2 u H2 x2 rh2 ru
          obtain ⟨hD2, hv2⟩ := keepE (x1.trans x2)
          have ra2 := ra.ext (x1.trans x2)
          refine ⟨av, hv2, by rw [← ra.length, sizeLine_eq]; unfold MOST at hm; omega, ?_⟩
          have x3 : Ext ρ0 H0 ρ2 H2 := (x0.trans x1).trans x2
          refine hN ρ2 h2 _ (acc ++ [y]) (av ++ [u]) ⟨x3.pre, x3.new, fun b o eb hb => ?_, fun b o eb => ?_, fun b o w eb => ?_, fun b o eb => ?_⟩ (rh2.put hv2 hD2) upd_same hD2 ((ra2.append (.cons ru .nil)).mon (Mon.put hv2)) (by simp; omega) (Rest.cons post)
          · rw [upd_ne (by rintro rfl; rw [hD0] at eb; cases eb)]; exact x3.keep b o eb hb
          · rw [upd_ne (by rintro rfl; rw [hD0] at eb; cases eb)]; exact x3.tups b o eb
          · rw [upd_ne (by rintro rfl; rw [hD0] at eb; cases eb)]; exact x3.frzs b o w eb
          · rw [upd_ne (by rintro rfl; rw [hD0] at eb; cases eb)]; exact x3.xds b o eb
theorem Rest.base {K : PySem.W.Frag} {mg : Str → Option Value} {W W' : WX} {ρ ρ1 : Rho} {σ : L2.St} {H H1 : Hp} {Q : VK} (x : Ext ρ H ρ1 H1) : ∀ {r : R (List D)}, PostE K mg W ρ σ H Q (r.bindG (fun _ _ => .stuck) .stuck fun ys h => newL h ys) → Rest K mg W' ρ1 σ H1 Q [] r
  | .ok _ _, p => fun ρ' v H' y rl rv => p ρ' v H' (x.trans y) rl rv
  | .exc _ _, p => p
  | .stuck, p => p
theorem Rest.fin {K : PySem.W.Frag} {mg : Str → Option Value} {W : WX} {ρ0 ρ : Rho} {σ : L2.St} {H0 H : Hp} {Q : VK} {acc : List D} {av : List V} {D' : Addr} {ih : IH} (p : Rest K mg W ρ0 σ H0 Q acc (.ok [] ih)) (x : Ext ρ0 H0 ρ H) (rh : RelH K ρ ih H)
    (hD0 : H0 D' = none) (hD : H D' = some (.lst av)) (hDρ : D' ∉ ρ.as) (ra : RepL K ρ H acc av) : Q (.ref D') H := by
  refine p ⟨ρ.as ++ [D']⟩ (.ref D') H ⟨x.pre.trans (List.prefix_append _ _), fun a z => ?_, x.keep, x.tups, x.frzs, x.xds⟩ ?_ (.ref ?_)
  · rcases List.mem_append.mp z with z | z
    · exact x.new a z
    · rw [List.mem_singleton.mp z]; exact .inr hD0
  · rw [List.append_nil]; exact rh.own hD hDρ ra
  · show (ρ.as ++ [D'])[ih.length]? = some D'
    rw [← rh.len]; simp
theorem keep_of {ρ : Rho} {H : Hp} {D' : Addr} {av : List V} (hD : H D' = some (.lst av)) (hDρ : D' ∉ ρ.as) {ρ' : Rho} {H' : Hp} (x : Ext ρ H ρ' H') : D' ∉ ρ'.as ∧ H' D' = some (.lst av) :=
  ⟨fun z => (x.new _ z).elim hDρ (fun q => by rw [hD] at q; cases q), x.keep _ _ hD hDρ⟩
theorem lc_red {W : WX} {wi : TI} {tG : TG} {tT : TT} {mi : MI} {g : MG} {mt : MT} {me : ME} {ρ : Rho} {env : Ev} {ih : IH} {σ : L2.St} {H : Hp} {Q : VK}
    (hi : ∀ ρ env ih σ H Q, Rel X.K xp ρ env ih σ H → PostI X.K X.mg W ρ σ H Q (mi env ih) → wi σ H Q)
    (hG : ∀ ρ env ih σ H Q d v env', Rel X.K xp ρ env ih σ H → RepV X.K ρ H d v → g d env = some env' → (∀ σ', Rel X.K xp ρ env' ih σ' H → L2.wipe σ' vs = L2.wipe σ vs → Q σ' H) → tG v σ H Q)
    (hT : ∀ ρ env ih σ H Q, Rel X.K xp ρ env ih σ H → PostT X.K X.mg (fun _ _ _ _ => False) ρ σ H Q (mt env ih) → tT σ H Q)
    (rl : Rel X.K xp ρ env ih σ H) (post : PostE X.K X.mg W ρ σ H Q (lcM mi vs g mt me env ih)) : tLc wi tG tT (canE X.K X.mg xp me) vs σ H Q := by
  refine hi ρ env ih σ H _ rl ?_
  unfold lcM at post
  revert post
  cases mi env ih with
  | exc x h => exact fun post => post
  | stuck => exact fun post => post
  | ok s h1 =>
    intro post ρ1 J H1 x1 r1 it D' hD'
    have rw1 : Rel X.K xp ρ1 (wipeE env vs) h1 (L2.wipe σ vs) H1 := (rl.wipe vs).next x1 r1
    have hDρ : D' ∉ ρ1.as := fun z => by
      obtain ⟨o, e⟩ := r1.ne_none z
      rw [hD'] at e; cases e
    cases s with
    | snap ds =>
      have post : PostE X.K X.mg W ρ σ H Q (if ds.length ≤ MOST then (lcS g mt me (wipeE env vs) ds h1).bindG (fun _ _ => .stuck) .stuck fun ys h => newL h ys else .stuck) := post
      split at post
      · rename_i hm
        have it : ItS X.K J ρ1 H1 ds := it
        refine ⟨fun i m H => ∃ ρ ih acc av, i + m = ds.length ∧ Ext ρ1 H1 ρ H ∧ RelH X.K ρ ih H ∧ H D' = some (.lst av) ∧ D' ∉ ρ.as ∧ RepL X.K ρ H acc av ∧ acc.length ≤ i ∧ Rest X.K X.mg W ρ1 σ H1 Q acc (lcS g mt me (wipeE env vs) (ds.drop i) ih), ⟨ds.length, ρ1, h1, [], [], by omega, Ext.fresh hD', r1.aside hD', upd_same, hDρ, .nil, Nat.zero_le _, Rest.base x1 post⟩, ?_⟩
        rintro i m H2 ⟨ρ2, ih2, acc, av, him, x2, r2, hD2, hn2, ra2, hl2, post2⟩
        cases hd : ds[i]? with
        | none =>
          have hge := List.getElem?_eq_none_iff.mp hd
          have e : i = ds.length := by omega
          rw [e, List.drop_length] at post2
          rw [e]
          exact .inl ⟨it.stop ρ2 H2 x2, Rest.fin post2 x2 r2 hD' hD2 hn2 ra2⟩
        | some d =>
          have hlt := (List.getElem?_eq_some_iff.mp hd).1
          obtain ⟨go, yl⟩ := it.go i d ρ2 H2 ih2 x2 r2 hd
          refine .inr ⟨go, fun H' => ∃ ρ ih acc av, Ext ρ1 H1 ρ H' ∧ RelH X.K ρ ih H' ∧ H' D' = some (.lst av) ∧ D' ∉ ρ.as ∧ RepL X.K ρ H' acc av ∧ acc.length ≤ i + 1 ∧ Rest X.K X.mg W ρ1 σ H1 Q acc (lcS g mt me (wipeE env vs) (ds.drop (i + 1)) ih),
            fun H' ⟨ρ', ih', acc', av', q1, q2, q3, q4, q5, q6, q7⟩ => ⟨ds.length - (i + 1), by omega, ρ', ih', acc', av', by omega, q1, q2, q3, q4, q5, q6, q7⟩, fun x H' y => ?_⟩
          obtain ⟨x3, r3, rv3⟩ := yl x H' y
          obtain ⟨hn3, hD3⟩ := keep_of hD2 hn2 x3
          have ed : ds.drop i = d :: ds.drop (i + 1) := by
            rw [List.drop_eq_getElem_cons hlt, (List.getElem?_eq_some_iff.mp hd).2]
          rw [ed] at post2
          exact lc_turn (X := X) (W := W) (k := fun h => lcS g mt me (wipeE env vs) (ds.drop (i + 1)) h) (N := fun H' => ∃ ρ ih acc av, Ext ρ1 H1 ρ H' ∧ RelH X.K ρ ih H' ∧ H' D' = some (.lst av) ∧ D' ∉ ρ.as ∧ RepL X.K ρ H' acc av ∧ acc.length ≤ i + 1 ∧ Rest X.K X.mg W ρ1 σ H1 Q acc (lcS g mt me (wipeE env vs) (ds.drop (i + 1)) ih)) (i := i) hG hT (rw1.next (x2.trans x3) r3) (x2.trans x3) hD' hD3 hn3 (ra2.ext x3) hl2 (by omega) rv3 post2
            (fun ρ ih H acc av a1 a2 a3 a4 a5 a6 a7 => ⟨ρ, ih, acc, av, a1, a2, a3, a4, a5, a6, a7⟩) (fun {ρ' H'} x => keep_of hD3 hn3 x)
      · exact post.elim
    | live v =>
      have post : PostE X.K X.mg W ρ σ H Q ((lcV g mt me (wipeE env vs) v MOST 0 h1).bindG (fun _ _ => .stuck) .stuck fun ys h => newL h ys) := post
      have it : ItV X.K J ρ1 H1 v := it
      refine ⟨fun i m H => ∃ ρ ih acc av, i + m = MOST ∧ Ext ρ1 H1 ρ H ∧ RelH X.K ρ ih H ∧ H D' = some (.lst av) ∧ D' ∉ ρ.as ∧ RepL X.K ρ H acc av ∧ acc.length ≤ i ∧ Rest X.K X.mg W ρ1 σ H1 Q acc (lcV g mt me (wipeE env vs) v m i ih), ⟨MOST, ρ1, h1, [], [], by omega, Ext.fresh hD', r1.aside hD', upd_same, hDρ, .nil, Nat.zero_le _, Rest.base x1 post⟩, ?_⟩
      rintro i m H2 ⟨ρ2, ih2, acc, av, him, x2, r2, hD2, hn2, ra2, hl2, post2⟩
      cases m with
      | zero => exact post2.elim
      | succ m =>
        have post2 : Rest X.K X.mg W ρ1 σ H1 Q acc (match v ih2 with
          | none => .stuck
          | some ds => match ds[i]? with
            | none => .ok [] ih2
            | some d => match g d (wipeE env vs) with
              | none => .stuck
              | some e => (mt e ih2).bindG (fun _ _ => .stuck) .stuck fun b h => if b = true then (me e h).bindG (fun _ _ => .stuck) .stuck fun y h => (lcV g mt me (wipeE env vs) v m (i + 1) h).bind fun ys h => .ok (y :: ys) h else lcV g mt me (wipeE env vs) v m (i + 1) h) := post2
        cases hv : v ih2 with
        | none => rw [hv] at post2; exact post2.elim
        | some ds =>
          rw [hv] at post2
          cases hd : ds[i]? with
          | none =>
            simp only [hd] at post2
            exact .inl ⟨it.stop i ρ2 H2 ih2 ds x2 r2 hv hd, Rest.fin post2 x2 r2 hD' hD2 hn2 ra2⟩
          | some d =>
            simp only [hd] at post2
            obtain ⟨go, yl⟩ := it.go i d ρ2 H2 ih2 ds x2 r2 hv hd
            refine .inr ⟨go, fun H' => ∃ ρ ih acc av, Ext ρ1 H1 ρ H' ∧ RelH X.K ρ ih H' ∧ H' D' = some (.lst av) ∧ D' ∉ ρ.as ∧ RepL X.K ρ H' acc av ∧ acc.length ≤ i + 1 ∧ Rest X.K X.mg W ρ1 σ H1 Q acc (lcV g mt me (wipeE env vs) v m (i + 1) ih),
              fun H' ⟨ρ', ih', acc', av', q1, q2, q3, q4, q5, q6, q7⟩ => ⟨m, by omega, ρ', ih', acc', av', by omega, q1, q2, q3, q4, q5, q6, q7⟩, fun x H' y => ?_⟩
            obtain ⟨x3, r3, rv3⟩ := yl x H' y
            obtain ⟨hn3, hD3⟩ := keep_of hD2 hn2 x3
            exact lc_turn (X := X) (W := W) (k := fun h => lcV g mt me (wipeE env vs) v m (i + 1) h) (N := fun H' => ∃ ρ ih acc av, Ext ρ1 H1 ρ H' ∧ RelH X.K ρ ih H' ∧ H' D' = some (.lst av) ∧ D' ∉ ρ.as ∧ RepL X.K ρ H' acc av ∧ acc.length ≤ i + 1 ∧ Rest X.K X.mg W ρ1 σ H1 Q acc (lcV g mt me (wipeE env vs) v m (i + 1) ih)) (i := i) hG hT (rw1.next (x2.trans x3) r3) (x2.trans x3) hD' hD3 hn3 (ra2.ext x3) hl2 (by omega) rv3 post2
              (fun ρ ih H acc av a1 a2 a3 a4 a5 a6 a7 => ⟨ρ, ih, acc, av, a1, a2, a3, a4, a5, a6, a7⟩) (fun {ρ' H'} x => keep_of hD3 hn3 x)
theorem s_lc {elt tg iter : Expr} {ifs : List Expr} {mi : MI} {g : MG} {mt : MT} {me : ME} {own : List (Str × Nat)} {vs : List Nat} (ho : own.map (·.2) = vs) (hc : X.calm = true) (hN : X.N.Nodup) (I : SI xp X tg iter mi) (ok : BlkOk X.N X.env.scope scope own)
    (G : SGF xp X.K (Blk X scope) vs tg g) (C : STF xp X.K X.mg (Blk X scope) ifs mt) (E : ∀ s H C cl fp, SE xp (Blk X scope s H C cl fp) elt me) (hs : ∀ x, foldedSetIterable iter X.env x = pure x := by intro _; rfl) :
    SE xp X (.ListComp elt [⟨tg, iter, ifs, 0⟩] scope pos) (lcM mi vs g mt me) := fun W tk => by
  subst ho
  obtain ⟨wi, pi, hi⟩ := I W tk
  obtain ⟨tG, pG, hG⟩ := G
  obtain ⟨tT, pT, hT⟩ := C
  refine ⟨tLc wi tG tT (canE X.K X.mg xp me) (own.map (·.2)), pe_lc hc hN pi ok pG pT (fun s H C cl fp => (E s H C cl fp).can) hs, fun ρ env ih σ H Q rl post => ?_⟩
  exact lc_red hi hG hT rl post
end
end Z
/-! Z13: all, any, isqrt, lcm, in, three names at once, slices, methods of lists. -/
namespace Z
open PySem PySem.Spec PyProof.Rows L2
section
variable {xp : Option XP} {X : Cx} {a b e : Expr} {es : List Expr} {ma mb : ME} {ms : MA} {pos : Pos}
/-! ### all, any -/
def seqOf (h : IH) : D → Option (List D)
  | .tup ds => some ds
  | .fz ds => some ds
  | .ref n => match h[n]? with
    | some (.lst ds) => some ds
    | _ => none
  | _ => none
def lisOf (h : IH) : D → Option (List D)
  | .fz ds => some ds
  | .ref n => match h[n]? with
    | some (.lst ds) => some ds
    | _ => none
  | _ => none
def bls : List D → Option (List Bool)
  | [] => some []
  | d :: ds => match d, bls ds with
    | .bl b, some bs => some (b :: bs)
    | _, _ => none
def its' : List D → Option (List Int)
  | [] => some []
  | d :: ds => match d, its' ds with
    | .int b, some bs => some (b :: bs)
    | _, _ => none
theorem lisOf_ok {K : PySem.W.Frag} {ρ : Rho} {ih : IH} {H : Hp} (rl : RelH K ρ ih H) {d : D} {v : V} {ds : List D} (q : lisOf ih d = some ds) (r : RepV K ρ H d v) : ∃ a vs, v = .ref a ∧ SqL K H a vs ∧ RepL K ρ H ds vs := by
  cases r with
  | fz h1 h2 => cases q; exact ⟨_, _, rfl, h1.sq, h2⟩
  | @ref n a h1 =>
    have q' : (match ih[n]? with
      | some (.lst ds) => some ds
      | _ => none) = some ds := q
    split at q'
    · rename_i ds hn
      cases q'
      obtain ⟨vs, hv, r⟩ := rl.lst h1 hn
      exact ⟨a, vs, rfl, SqL.of hv, r⟩
    · cases q'
  | _ => cases q
theorem bls_ok {K : PySem.W.Frag} {ρ : Rho} {H : Hp} : ∀ {ds : List D} {vs : List V} {bs : List Bool}, bls ds = some bs → RepL K ρ H ds vs → vs = bs.map V.bl
  | [], _, _, e, .nil => by cases e; rfl
  | d :: ds, _, _, e, .cons r t => by
    unfold bls at e
    split at e
    · rename_i b bs h1
      cases e
      cases r
      rw [bls_ok h1 t]; rfl
    · cases e
theorem its_ok {K : PySem.W.Frag} {ρ : Rho} {H : Hp} : ∀ {ds : List D} {vs : List V} {bs : List Int}, its' ds = some bs → RepL K ρ H ds vs → vs = bs.map V.int
  | [], _, _, e, .nil => by cases e; rfl
  | d :: ds, _, _, e, .cons r t => by
    unfold its' at e
    split at e
    · rename_i b bs h1
      cases e
      cases r
      rw [its_ok h1 t]; rfl
    · cases e
def allF : MF := fun ds h => match ds with
  | [d] => match (lisOf h d).bind bls with
    | some bs => .ok (.bl (bs.all id)) h
    | none => .stuck
  | _ => .stuck
def anyF : MF := fun ds h => match ds with
  | [d] => match (lisOf h d).bind bls with
    | some bs => .ok (.bl (bs.any id)) h
    | none => .stuck
  | _ => .stuck
def sumF : MF := fun ds h => match ds with
  | [d] => match (lisOf h d).bind its' with
    | some bs => .ok (.int bs.sum) h
    | none => .stuck
  | _ => .stuck
theorem c_all (hc : X.calm = true) : SC X (.builtin "all") allF := ⟨_, cr_all hc, fun W ρ ih H σ Q ds vs rl rv post => by
  unfold allF at post
  split at post
  · cases rv with
    | cons q t =>
      cases t
      split at post
      · rename_i bs e
        obtain ⟨xs, e1, e2⟩ := Option.bind_eq_some_iff.mp e
        obtain ⟨a, vs, rfl, h1, h2⟩ := lisOf_ok rl e1 q
        exact ⟨a, bs, rfl, by rw [← bls_ok e2 h2]; exact h1, post ρ _ H .refl rl (.bl _)⟩
      · exact post.elim
  · exact post.elim⟩
theorem c_any (hc : X.calm = true) : SC X (.builtin "any") anyF := ⟨_, cr_any hc, fun W ρ ih H σ Q ds vs rl rv post => by
  unfold anyF at post
  split at post
  · cases rv with
    | cons q t =>
      cases t
      split at post
      · rename_i bs e
        obtain ⟨xs, e1, e2⟩ := Option.bind_eq_some_iff.mp e
        obtain ⟨a, vs, rfl, h1, h2⟩ := lisOf_ok rl e1 q
        exact ⟨a, bs, rfl, by rw [← bls_ok e2 h2]; exact h1, post ρ _ H .refl rl (.bl _)⟩
      · exact post.elim
  · exact post.elim⟩
theorem c_sum (hc : X.calm = true) : SC X (.builtin "sum") sumF := ⟨_, cr_sum hc, fun W ρ ih H σ Q ds vs rl rv post => by
  unfold sumF at post
  split at post
  · cases rv with
    | cons q t =>
      cases t
      split at post
      · rename_i bs e
        obtain ⟨xs, e1, e2⟩ := Option.bind_eq_some_iff.mp e
        obtain ⟨a, vs, rfl, h1, h2⟩ := lisOf_ok rl e1 q
        exact ⟨a, bs, rfl, by rw [← its_ok e2 h2]; exact h1, post ρ _ H .refl rl (.int _)⟩
      · exact post.elim
  · exact post.elim⟩
/-! ### isqrt, lcm -/
def isqrtF : MF := fun ds h => match ds with
  | [.int i] => if 0 ≤ i ∧ i.toNat.log2 < 13000 then .ok (.int ((Float64.isqrt i.toNat : Nat) : Int)) h else .stuck
  | _ => .stuck
def rIsqrt : List V → Hp → VK → Prop := fun vs H Q => ∃ a : Int, vs = [.int a] ∧ 0 ≤ a ∧ a.toNat.log2 < 13000 ∧ Q (.int ((Float64.isqrt a.toNat : Nat) : Int)) H
theorem cr_isqrt : CallR X (.builtin "math.isqrt") rIsqrt := by
  intro pins s σ H vs us Q I r h
  obtain ⟨a, rfl, h0, h1, q⟩ := h
  obtain ⟨u, rfl, ru⟩ := r.one
  obtain ⟨t, rfl⟩ := ru
  exact PySem.call_function_meets PySem.W.MGF.kind_isqrt PySem.W.MGF.plain_isqrt PySem.W.MGF.entry_isqrt (PySem.W.MGF.args_isqrt _) (PySem.W.mg_run_isqrt a t (by omega) (by omega) (by omega)).meets ⟨.int _, H, I.tok _, ⟨_, rfl⟩, q⟩
theorem c_isqrt : SC X (.builtin "math.isqrt") isqrtF := ⟨_, cr_isqrt, fun W ρ ih H σ Q ds vs rl rv post => by
  unfold isqrtF at post
  split at post
  · cases rv with
    | cons q t =>
      cases t
      cases q
      split at post
      · rename_i c
        exact ⟨_, rfl, c.1, c.2, post ρ _ H .refl rl (.int _)⟩
      · exact post.elim
  · exact post.elim⟩
def lcmF : MF := fun ds h => match ds with
  | [.int i, .int j] => if i.natAbs.log2 < 13000 ∧ j.natAbs.log2 < 13000 ∧ ((Nat.lcm i.natAbs j.natAbs : Nat) : Int).natAbs.log2 < bitsLine then .ok (.int ((Nat.lcm i.natAbs j.natAbs : Nat) : Int)) h else .stuck
  | _ => .stuck
def rLcm : List V → Hp → VK → Prop := fun vs H Q => ∃ a b : Int, vs = [.int a, .int b] ∧ a.natAbs.log2 < 13000 ∧ b.natAbs.log2 < 13000 ∧ ((Nat.lcm a.natAbs b.natAbs : Nat) : Int).natAbs.log2 < bitsLine ∧ Q (.int ((Nat.lcm a.natAbs b.natAbs : Nat) : Int)) H
theorem log_max {a b n : Nat} (ha : a.log2 < n) (hb : b.log2 < n) : (max a b).log2 < n := by
  rcases Nat.le_total a b with h | h
  · rw [Nat.max_eq_right h]; exact hb
  · rw [Nat.max_eq_left h]; exact ha
theorem cr_lcm : CallR X (.builtin "math.lcm") rLcm := by
  intro pins s σ H vs us Q I r h
  obtain ⟨a, b, rfl, h0, h1, h2, q⟩ := h
  obtain ⟨t, u, rfl⟩ := Vals.int2 r
  have z1 : (max 1 a.natAbs).log2 < 13000 := log_max (by decide) h0
  have z2 := log_max h0 h1
  have g := PySem.W.mg_run_lcm a t b u (by omega) (by omega) (by rw [Nat.lcm_comm 1, Nat.lcm_one_right]; exact h2)
  rw [Nat.lcm_comm 1, Nat.lcm_one_right] at g
  exact PySem.call_function_meets PySem.W.MGF.kind_lcm PySem.W.MGF.plain_lcm PySem.W.MGF.entry_lcm (PySem.W.MGF.args_lcm _ _) g.meets ⟨.int _, H, I.tok _, ⟨_, rfl⟩, q⟩
theorem c_lcm : SC X (.builtin "math.lcm") lcmF := ⟨_, cr_lcm, fun W ρ ih H σ Q ds vs rl rv post => by
  unfold lcmF at post
  split at post
  · cases rv with
    | cons q t =>
      cases t with
      | cons q2 t =>
        cases t
        cases q
        cases q2
        split at post
        · rename_i c
          exact ⟨_, _, rfl, c.1, c.2.1, c.2.2, post ρ _ H .refl rl (.int _)⟩
        · exact post.elim
  · exact post.elim⟩
/-! ### in -/
def inB (h : IH) (d e : D) : Option Bool := match pd pdK h d, (lisOf h e).bind fun xs => pdL (pd pdK h) xs with
  | some p, some qs => if SeqAt.shaped p = true ∧ SeqAt.shaped (.list qs) = true then some (qs.any fun z => PyData.eqv z p) else none
  | _, _ => none
/-- a flat value -/
def vOf : D → Option V
  | .non => some .non
  | .bl b => some (.bl b)
  | .int i => some (.int i)
  | .str x => some (.str x)
  | _ => none
def vsOf : List D → Option (List V)
  | [] => some []
  | d :: ds => match vOf d, vsOf ds with
    | some v, some vs => some (v :: vs)
    | _, _ => none
theorem vOf_ok {K : PySem.W.Frag} {ρ : Rho} {H : Hp} {d : D} {v u : V} (e : vOf d = some u) (r : RepV K ρ H d v) : v = u ∧ flatV u = true := by
  cases r <;> cases e <;> exact ⟨rfl, rfl⟩
theorem vsOf_ok {K : PySem.W.Frag} {ρ : Rho} {H : Hp} : ∀ {ds : List D} {vs us : List V}, vsOf ds = some us → RepL K ρ H ds vs → vs = us ∧ us.all flatV = true
  | [], _, _, e, .nil => by cases e; exact ⟨rfl, rfl⟩
  | d :: ds, _, _, e, .cons r t => by
    unfold vsOf at e
    split at e
    · rename_i v vs e1 e2
      cases e
      obtain ⟨rfl, h1⟩ := vOf_ok e1 r
      obtain ⟨rfl, h2⟩ := vsOf_ok e2 t
      exact ⟨rfl, by rw [List.all_cons, h1, h2]; rfl⟩
    · cases e
def inT (d e : D) : Option Bool := match e with
  | .tup ds => match vOf d, vsOf ds with
    | some u, some us => some (inV u us)
    | _, _ => none
  | _ => none
def inM (neg : Bool) : MO := fun d e h => match inT d e with
  | some b => .ok (.bl (if neg = true then !b else b)) h
  | none => match inB h d e with
    | some b => .ok (.bl (if neg = true then !b else b)) h
    | none => .stuck
theorem inT_of {K : PySem.W.Frag} {ρ : Rho} {H : Hp} {d e : D} {x y : V} {b : Bool} (q : inT d e = some b) (hd : RepV K ρ H d x) (he : RepV K ρ H e y) : ∃ p xs, y = .ref p ∧ SqT K H p xs ∧ flatV x = true ∧ xs.all flatV = true ∧ inV x xs = b := by
  unfold inT at q
  split at q
  · cases he with
    | tup h1 h2 =>
      split at q
      · rename_i u us e1 e2
        cases q
        obtain ⟨rfl, f1⟩ := vOf_ok e1 hd
        obtain ⟨rfl, f2⟩ := vsOf_ok e2 h2
        exact ⟨_, _, rfl, h1, f1, f2, rfl⟩
      · cases q
  · cases q
theorem inB_of {K : PySem.W.Frag} {ρ : Rho} {H : Hp} {ih : IH} (rl : RelH K ρ ih H) {d e : D} {x y : V} {b : Bool} (q : inB ih d e = some b) (hd : RepV K ρ H d x) (he : RepV K ρ H e y) :
    ∃ p qs, Dp K H x p ∧ Dp K H y (.list qs) ∧ SeqAt.shaped p = true ∧ SeqAt.shaped (.list qs) = true ∧ (qs.any fun z => PyData.eqv z p) = b := by
  unfold inB at q
  split at q
  · rename_i p qs e1 e2
    split at q
    · rename_i c
      cases q
      obtain ⟨xs, e3, e4⟩ := Option.bind_eq_some_iff.mp e2
      obtain ⟨a, vs, rfl, h1, h2⟩ := lisOf_ok rl e3 he
      exact ⟨p, qs, pd_dp rl e1 hd, .lst h1 (pdL_all (fun d p v => pd_dp rl) e4 h2), c.1, c.2, rfl⟩
    · cases q
  · cases q
theorem o_in (hu : X.A.units + 65 < cLine) : SO X (compareOp .In) (inM false) := ⟨_, (op_inD hu).or op_in_seq, fun W ρ ih H σ Q d e x y rl hd he post => by
  unfold inM at post
  split at post
  · rename_i b q
    obtain ⟨p, xs, h1, h2, h3, h4, h5⟩ := inT_of q hd he
    subst h5
    exact .inr ⟨p, xs, h1, .inr h2, h3, h4, post ρ _ H .refl rl (.bl _)⟩
  · split at post
    · rename_i b q
      obtain ⟨p, q', h1, h2, h3, h4, h5⟩ := inB_of rl q hd he
      subst h5
      exact .inl ⟨p, q', h1, h2, h3, h4, post ρ _ H .refl rl (.bl _)⟩
    · exact post.elim⟩
theorem o_notin (hu : X.A.units + 65 < cLine) : SO X (compareOp .NotIn) (inM true) := ⟨_, (op_notInD hu).or op_notIn_seq, fun W ρ ih H σ Q d e x y rl hd he post => by
  unfold inM at post
  split at post
  · rename_i b q
    obtain ⟨p, xs, h1, h2, h3, h4, h5⟩ := inT_of q hd he
    subst h5
    exact .inr ⟨p, xs, h1, .inr h2, h3, h4, post ρ _ H .refl rl (.bl _)⟩
  · split at post
    · rename_i b q
      obtain ⟨p, q', h1, h2, h3, h4, h5⟩ := inB_of rl q hd he
      subst h5
      exact .inl ⟨p, q', h1, h2, h3, h4, post ρ _ H .refl rl (.bl _)⟩
    · exact post.elim⟩
/-! ### a, b, c = x, y, z -/
def parM3 (i j l : Nat) (ms : MA) : MS := fun env h => (ms env h).thenS env fun ds h => match ds with
  | [d, e, f] => .nx (((env.set i (some d)).set j (some e)).set l (some f)) h
  | _ => .stuck
theorem st_par3 {i j l : Nat} {x y z : Str} {a b c : Expr} {ms : MA} {px py pz pt : Pos} {kt k2 pt2} (hc : X.calm = true) (hN : X.N.Nodup) (hi : X.N[i]? = some x) (hj : X.N[j]? = some y) (hl : X.N[l]? = some z) (hij : i ≠ j) (hil : i ≠ l) (hjl : j ≠ l)
    (hx : X.env.scope.names.lookup x = some .local) (hy : X.env.scope.names.lookup y = some .local) (hz : X.env.scope.names.lookup z = some .local) (A : SA xp X [a, b, c] ms)
    (hw : swappedStores [.Tuple [.Name x px, .Name y py, .Name z pz] kt pt] (.Tuple [a, b, c] k2 pt2) X.env = pure (some [x, y, z]))
    (hs : swapsWithSole [.Tuple [.Name x px, .Name y py, .Name z pz] kt pt] (.Tuple [a, b, c] k2 pt2) pos.line X.env = pure false := by rfl) :
    SS xp X (.Assign [.Tuple [.Name x px, .Name y py, .Name z pz] kt pt] (.Tuple [a, b, c] k2 pt2) pos) (parM3 i j l ms) := fun W tk => by
  obtain ⟨ta, pa, ha⟩ := A W tk
  refine ⟨_, ps_par3 hc hN hi hj hl hij hil hjl hx hy hz pa hw hs, fun ρ env ih σ H N rl post => ?_⟩
  refine fstA (ta := ta) ha rl (lkS (N := N) rl) post fun ρ1 ds h1 vs H1 e1 r1 p1 post => ?_
  split at post
  · cases p1 with
    | cons q1 t =>
      cases t with
      | cons q2 t =>
        cases t with
        | cons q3 t =>
          cases t
          exact ⟨_, _, _, rfl, post ρ1 _ H1 .refl ((((rl.next e1 r1).set i q1).set j q2).set l q3)⟩
  · exact post.elim
/-! ### slices -/
abbrev MOp := Ev → IH → R (Option Int)
def SPo (xp : Option XP) (X : Cx) (e : Option Expr) (m : MOp) : Prop := ∀ W, Takes X W → ∃ t, PO X e t ∧
  ∀ ρ env ih σ H (Q : Option Int → Hp → Prop), Rel X.K xp ρ env ih σ H → (match m env ih with
    | .ok o ih => ∀ ρ' H', Ext ρ H ρ' H' → RelH X.K ρ' ih H' → Q o H'
    | .exc x ih => ∀ ρ' cls od H', Ext ρ H ρ' H' → RelH X.K ρ' ih H' → RepX X.K X.mg ρ' H' x cls od → W cls od σ H'
    | .stuck => False) → t σ H Q
def noneO : MOp := fun _ h => .ok none h
def someO (ma : ME) : MOp := fun env h => (ma env h).bindG .exc .stuck fun d h => match d with
  | .int i => .ok (some i) h
  | _ => .stuck
theorem so_none : SPo xp X none noneO := fun W tk => ⟨_, po_none, fun ρ env ih σ H Q rl post => post ρ H .refl rl.hp⟩
theorem so_some (A : SE xp X a ma) : SPo xp X (some a) (someO ma) := fun W tk => by
  obtain ⟨ta, pa, ha⟩ := A W tk
  refine ⟨_, po_some pa, fun ρ env ih σ H Q rl post => ha ρ env ih σ H _ rl ?_⟩
  unfold someO at post
  cases hm : ma env ih with
  | stuck => rw [hm] at post; exact post
  | exc x h => rw [hm] at post; exact post
  | ok d h =>
    rw [hm] at post
    intro ρ' v H' x rh rv
    cases d with
    | int i => cases rv; exact ⟨i, rfl, post ρ' H' x rh⟩
    | _ => exact post.elim
def cutD (xs : List D) (lo hi : Option Int) : List D := (xs.drop (HT.sIx xs.length 0 lo)).take (HT.sIx xs.length xs.length hi - HT.sIx xs.length 0 lo)
theorem RepL.take {K : PySem.W.Frag} {ρ : Rho} {H : Hp} : ∀ {ds : List D} {vs : List V} (n : Nat), RepL K ρ H ds vs → RepL K ρ H (ds.take n) (vs.take n)
  | _, _, 0, _ => .nil
  | _, _, _ + 1, .nil => .nil
  | _, _, n + 1, .cons r t => .cons r (RepL.take n t)
theorem RepL.drop {K : PySem.W.Frag} {ρ : Rho} {H : Hp} : ∀ {ds : List D} {vs : List V} (n : Nat), RepL K ρ H ds vs → RepL K ρ H (ds.drop n) (vs.drop n)
  | _, _, 0, r => r
  | _, _, _ + 1, .nil => .nil
  | _, _, n + 1, .cons _ t => RepL.drop n t
theorem RepL.cut {K : PySem.W.Frag} {ρ : Rho} {H : Hp} {ds : List D} {vs : List V} (r : RepL K ρ H ds vs) (lo hi : Option Int) : RepL K ρ H (cutD ds lo hi) (cutV vs lo hi) := by
  unfold cutD cutV
  rw [r.length]
  exact RepL.take _ (RepL.drop _ r)
theorem cut_whole {ds : List D} {lo hi : Option Int} (h : HT.sIx ds.length 0 lo = 0 ∧ HT.sIx ds.length ds.length hi = ds.length) : cutD ds lo hi = ds := by
  unfold cutD
  rw [h.1, h.2]
  simp
def slM (ma : ME) (ml mh : MOp) : ME := fun env h => (ma env h).bindG .exc .stuck fun d h => (ml env h).bindG .exc .stuck fun lo h => (mh env h).bindG .exc .stuck fun hi h => match d with
  | .tup ds => .ok (.tup (cutD ds lo hi)) h
  | _ => match lisOf h d with
    | some ds => newL h (cutD ds lo hi)
    | none => .stuck
theorem fstO {W : WX} {t : TO} {m : MOp} {ρ : Rho} {env : Ev} {ih : IH} {σ : L2.St} {H : Hp} {Q : VK} {f : Option Int → IH → R D} {Q' : Option Int → Hp → Prop}
    (h : ∀ ρ env ih σ H (Q : Option Int → Hp → Prop), Rel X.K xp ρ env ih σ H → (match m env ih with
      | .ok o ih => ∀ ρ' H', Ext ρ H ρ' H' → RelH X.K ρ' ih H' → Q o H'
      | .exc x ih => ∀ ρ' cls od H', Ext ρ H ρ' H' → RelH X.K ρ' ih H' → RepX X.K X.mg ρ' H' x cls od → W cls od σ H'
      | .stuck => False) → t σ H Q)
    (rl : Rel X.K xp ρ env ih σ H) (post : PostE X.K X.mg W ρ σ H Q ((m env ih).bindG .exc .stuck f)) (k : ∀ ρ1 o h1 H1, Ext ρ H ρ1 H1 → RelH X.K ρ1 h1 H1 → PostE X.K X.mg W ρ1 σ H1 Q (f o h1) → Q' o H1) : t σ H Q' := by
  refine h ρ env ih σ H _ rl ?_
  revert post
  cases m env ih with
  | ok o h1 => exact fun post ρ1 H1 x r => k ρ1 o h1 H1 x r (PostE.ext post x)
  | exc x h => exact fun post => post
  | stuck => exact fun post => post
theorem s_sl {lo hi : Option Expr} {ml mh : MOp} {p2 : Pos} (A : SE xp X a ma) (L : SPo xp X lo ml) (U : SPo xp X hi mh) : SE xp X (.Subscript a (.Slice lo hi none p2) pos) (slM ma ml mh) := fun W tk => by
  obtain ⟨ta, pa, ha⟩ := A W tk
  obtain ⟨tl, pl, hl⟩ := L W tk
  obtain ⟨tu, pu, hu⟩ := U W tk
  refine ⟨_, pe_slice (sl_list.or sl_tupA) pa pl pu, fun ρ env ih σ H Q rl post => ?_⟩
  refine fstE (ta := ta) ha rl (lkE (Q := Q)) post fun ρ1 d h1 v H1 e1 r1 p1 post => ?_
  have rl1 := rl.next e1 r1
  refine fstO (t := tl) hl rl1 post fun ρ2 lo h2 H2 e2 r2 post => ?_
  have rl2 := rl1.next e2 r2
  refine fstO (t := tu) hu rl2 post fun ρ3 hi h3 H3 e3 r3 post => ?_
  have p3 := p1.ext (e2.trans e3)
  split at post
  · cases p3 with
    | @tup b vs xs q1 q2 =>
      refine .inr ⟨b, vs, rfl, q1, fun w => ?_, fun _ p hp => ?_⟩
      · have z := post ρ3 (.ref b) H3 .refl r3
        rw [cut_whole (by rw [q2.length]; exact w)] at z
        exact z (.tup q1 q2)
      · exact post ρ3 _ _ (Ext.fresh hp) (r3.aside hp) (.tup (SqT.of upd_same) ((q2.cut lo hi).ext (Ext.fresh hp)))
  · split at post
    · rename_i xs q
      obtain ⟨b, vs, rfl, q1, q2⟩ := lisOf_ok r3 q p3
      refine .inl ⟨b, vs, rfl, q1, fun p hp => ?_⟩
      obtain ⟨ρ', x', rl', rv⟩ := alloc r3 hp (q2.cut lo hi)
      exact post ρ' _ _ x' rl' rv
    · exact post.elim
/-! ### methods of lists -/
abbrev MMt := D → List D → IH → R D
def SMt (X : Cx) (id : String) (m : MMt) : Prop := ∃ r, MtR X id r ∧ ∀ W ρ ih H σ Q d ds v vs, RelH X.K ρ ih H → RepV X.K ρ H d v → RepL X.K ρ H ds vs → PostE X.K X.mg W ρ σ H Q (m d ds ih) → r v vs H Q
def methM (m : MMt) (mo : ME) (ms : MA) : ME := fun env h => (mo env h).bindG .exc .stuck fun d h => match lisOf h d with
  | some _ => (ms env h).bindG .exc .stuck fun ds h => m d ds h
  | none => .stuck
variable {o : Expr} {mo : ME} {name : Str} {apos cpos : Pos} {id : String} {m : MMt}
theorem s_meth (slot : Slot "list" name id) (hty : typeOf (.builtin id) = pure (.type "method_descriptor")) (M : SMt X id m) (O : SE xp X o mo) (A : SA xp X (e :: es) ms)
    (hbase : attributeBase o name X.env (eval o X.env) = eval o X.env := by rfl)
    (hfew : ((backTo cpos (starEach (e :: es) X.env)).all (fun x => !x.1) && (backToKw cpos (keywordEach [] X.env)).all (fun x => x.1.isSome)
      && decide ((e :: es).length + ([] : List Keyword).length + (if ([] : List Keyword).isEmpty then 0 else 1) < 30)) = true := by rfl)
    (hline : (apos.endLine == cpos.line) = true := by rfl) (hs : starEach (e :: es) X.env = (false, eval e X.env) :: starEach es X.env := by rfl) (hplain : (backTo cpos (starEach es X.env)).any (·.1) = false := by rfl) :
    SE xp X (.Call (.Attribute o name apos) (e :: es) [] cpos) (methM m mo ms) := fun W tk => by
  obtain ⟨to, po, ho⟩ := O W tk
  obtain ⟨ta, pa, ha⟩ := A W tk
  obtain ⟨r, hr, hm⟩ := M
  refine ⟨_, pe_bm PySem.F.plainAttrs_list slot hty hr po pa hbase hfew hline hs hplain, fun ρ env ih σ H Q rl post => ?_⟩
  refine fstE (ta := to) ho rl (lkE (Q := Q)) post fun ρ1 d h1 v H1 e1 r1 p1 post => ?_
  split at post
  · rename_i xs q
    obtain ⟨b, us, rfl, q1, q2⟩ := lisOf_ok r1 q p1
    refine ⟨.inl ⟨rfl, us, q1⟩, ?_⟩
    exact fstA (ta := ta) ha (rl.next e1 r1) (lkE (Q := Q)) post fun ρ2 ds h2 vs H2 e2 r2 p2 post => hm W ρ2 h2 H2 σ Q d ds _ vs r2 (p1.ext e2) p2 post
  · exact post.elim
def appendF : MMt := fun d ds h => match d, ds with
  | .ref n, [e] => match h[n]? with
    | some (.lst xs) => if xs.length < sizeLine then .ok .non (h.set n (.lst (xs ++ [e]))) else .stuck
    | _ => .stuck
  | _, _ => .stuck
theorem m_append : SMt X "list.append" appendF := ⟨_, mt_append, fun W ρ ih H σ Q d ds v vs rl rv rs post => by
  unfold appendF at post
  split at post
  · cases rs with
    | cons q t =>
      cases t
      cases rv with
      | @ref n a h1 =>
        split at post
        · rename_i xs hn
          split at post
          · rename_i c
            obtain ⟨us, hv, r⟩ := rl.lst h1 hn
            obtain ⟨x', rl'⟩ := rewrite rl h1 hv (r.append (.cons q .nil))
            exact ⟨a, us, _, rfl, rfl, hv, by rw [← r.length]; exact c, post ρ _ _ x' rl' .non⟩
          · exact post.elim
        · exact post.elim
  · exact post.elim⟩
def extendF : MMt := fun d ds h => match d, ds with
  | .ref n, [.ref k] => match h[n]?, h[k]? with
    | some (.lst xs), some (.lst ys) => if xs.length + ys.length ≤ sizeLine then .ok .non (h.set n (.lst (xs ++ ys))) else .stuck
    | _, _ => .stuck
  | _, _ => .stuck
theorem m_extend : SMt X "list.extend" extendF := ⟨_, mt_extend, fun W ρ ih H σ Q d ds v vs rl rv rs post => by
  unfold extendF at post
  split at post
  · cases rs with
    | cons q t =>
      cases t
      cases q with
      | @ref k b h2 =>
        cases rv with
        | @ref n a h1 =>
          split at post
          · rename_i xs ys hn hk
            split at post
            · rename_i c
              obtain ⟨us, hv, r⟩ := rl.lst h1 hn
              obtain ⟨ws, hw, r2⟩ := rl.lst h2 hk
              obtain ⟨x', rl'⟩ := rewrite rl h1 hv (r.append r2)
              exact ⟨a, b, us, ws, rfl, rfl, hv, hw, by rw [← r.length, ← r2.length]; exact c, post ρ _ _ x' rl' .non⟩
            · exact post.elim
          · exact post.elim
  · exact post.elim⟩
/-- name = [..] on one line -/
theorem st_setLc {i : Nat} {y : Str} {py : Pos} {elt tg iter : Expr} {ifs : List Expr} {scope : Scope} {mi : MI} {g : MG} {mt : MT} {me : ME} {own : List (Str × Nat)} {vs : List Nat} (ho : own.map (·.2) = vs) {spos : Pos} (hc : X.calm = true) (hN : X.N.Nodup) (hy : X.N[i]? = some y) (hyl : X.env.scope.names.lookup y = some .local)
    (I : SI xp X tg iter mi) (ok : BlkOk X.N X.env.scope scope own)
    (G : SGF xp X.K (Blk X scope) vs tg g) (C : STF xp X.K X.mg (Blk X scope) ifs mt) (E : ∀ s H C cl fp, SE xp (Blk X scope s H C cl fp) elt me)
    (hsw : swapsWith (.ListComp elt [⟨tg, iter, ifs, 0⟩] scope pos) (some (.Name y py)) spos.line X.env = pure true := by rfl) (hs : ∀ x, foldedSetIterable iter X.env x = pure x := by intro _; rfl) :
    SS xp X (.Assign [.Name y py] (.ListComp elt [⟨tg, iter, ifs, 0⟩] scope pos) spos) (setM i (lcM mi vs g mt me)) := fun W tk => by
  subst ho
  obtain ⟨wi, pi, hi⟩ := I W tk
  obtain ⟨tG, pG, hG⟩ := G
  obtain ⟨tT, pT, hT⟩ := C
  refine ⟨tAsg (tLc wi tG tT (canE X.K X.mg xp me) (own.map (·.2))) (gName i), ps_setLc hc hN hy hyl hsw pi ok pG pT (fun s H C cl fp => (E s H C cl fp).can) hs, fun ρ env ih σ H N rl post => ?_⟩
  have ha : ∀ ρ env ih σ H Q, Rel X.K xp ρ env ih σ H → PostE X.K X.mg W ρ σ H Q (lcM mi (own.map (·.2)) g mt me env ih) → tLc wi tG tT (canE X.K X.mg xp me) (own.map (·.2)) σ H Q := fun ρ env ih σ H Q rl post => lc_red hi hG hT rl post
  exact fstE (ta := tLc wi tG tT (canE X.K X.mg xp me) (own.map (·.2))) ha rl (lkS (N := N) rl) post fun ρ1 d h1 v H1 e1 r1 p1 post => post ρ1 _ H1 .refl ((rl.next e1 r1).set i p1)
theorem FS.ali {P : Program} {w : World} {K : PySem.W.Frag} {mg : Str → Option Value} {base : Heap} {x y : Str} {k n : Nat} {F : MF} {u : Value} (f : FS P w K mg base y k n F) (hy : mg y = some u) (hx : mg x = some u) : FS P w K mg base x k n F := by
  obtain ⟨a, fd, ps, h1, h2⟩ := f.ex
  rw [hy] at h1
  exact ⟨a, fd, ps, by rw [hx]; exact h1, h2⟩
/-- a def that is not reached -/
theorem fs_stuck {P : Program} {w : World} {K : PySem.W.Frag} {mg : Str → Option Value} {base : Heap} {x qual : Str} {params : Arguments} {body : List Stmt} {scope : Scope} {f : Addr} {fd : FuncData} {ps : List Str} {k : Nat} (F : FunD K x qual params body scope [] [] f fd) (hm : mg x = some (.ref f)) (hb : Binds K fd ps []) :
    FS P w K mg base x k ps.length (fun _ _ => .stuck) := ⟨f, fd, ps, hm, F.kp, hb, fun vs H Q E h => by
    obtain ⟨_, _, _, _, _, _, post⟩ := h
    exact post.elim, fun A outer s H args us vs Q E _ _ _ _ h => by
    obtain ⟨_, _, _, _, _, _, post⟩ := h
    exact post.elim⟩
theorem hu65 {k : Nat} {A : Around} (r : Room k A) : A.units + 65 < cLine := by have := r.un; omega
end
end Z
/-! Z14: walks over lists that are objects, evaluated. -/
namespace Z
open PySem PySem.Spec PyProof.Rows L2
section
variable {env : Ev} {h : IH} {g : MG} {mb : MS} {d : D} {ds : List D} {n i k : Nat}
/-- the items of the list k -/
def viewL (k : Nat) : IH → Option (List D) := fun h => match h[k]? with
  | some (.lst ds) => some ds
  | _ => none
theorem viewL_eq (e : h[k]? = some (.lst ds)) : viewL k h = some ds := by unfold viewL; rw [e]
theorem srcOf_ref (e : h[k]? = some (.lst ds)) : srcOf h (.ref k) = some (.live (viewL k)) := by
  show (match h[k]? with
    | some (.lst _) => some (Src.live fun h => match h[k]? with
      | some (.lst ds) => some ds
      | _ => none)
    | _ => none) = _
  rw [e]
  rfl
theorem LOOP_pos (j : Nat) (hj : j < 1000000 := by decide) : LOOP - j = (LOOP - (j + 1)) + 1 := by
  unfold LOOP
  omega
/-- the next turn -/
theorem forV_nx {v : IH → Option (List D)} (j : Nat) (e : v h = some ds) (hi : ds[i]? = some d) (hj : j < 1000000 := by decide) : forV g mb v (LOOP - j) i env h = turnM g mb d env h (forV g mb v (LOOP - (j + 1)) (i + 1)) := by
  rw [LOOP_pos j hj]
  show (match v h with
    | none => RS.stuck
    | some ds => match ds[i]? with
      | none => .nx env h
      | some d => turnM g mb d env h (forV g mb v (LOOP - (j + 1)) (i + 1))) = _
  rw [e]
  dsimp only
  rw [hi]
theorem forV_end {v : IH → Option (List D)} (j : Nat) (e : v h = some ds) (hi : ds[i]? = none) (hj : j < 1000000 := by decide) : forV g mb v (LOOP - j) i env h = .nx env h := by
  rw [LOOP_pos j hj]
  show (match v h with
    | none => RS.stuck
    | some ds => match ds[i]? with
      | none => .nx env h
      | some d => turnM g mb d env h (forV g mb v (LOOP - (j + 1)) (i + 1))) = _
  rw [e]
  dsimp only
  rw [hi]
theorem forV_0 {v : IH → Option (List D)} : forV g mb v LOOP 0 env h = forV g mb v (LOOP - 0) 0 env h := rfl
/-- an invariant of a walk over a list that stays -/
theorem forV_inv {v : IH → Option (List D)} (I : Nat → Ev → IH → Prop) (hl : ds.length < 1000000) (hv : ∀ i e h, I i e h → v h = some ds)
    (step : ∀ i e h d, I i e h → ds[i]? = some d → ∃ e1, g d e = some e1 ∧ ∃ e2 h2, (mb e1 h = .nx e2 h2 ∨ mb e1 h = .ct e2 h2) ∧ I (i + 1) e2 h2) :
    ∀ (m i : Nat) (e : Ev) (h : IH), ds.length - i = m → i ≤ ds.length → I i e h → ∃ e' h', forV g mb v (LOOP - i) i e h = .nx e' h' ∧ I ds.length e' h'
  | 0, i, e, h, hm, hi, q => by
    have : i = ds.length := by omega
    subst this
    exact ⟨e, h, forV_end _ (hv _ _ _ q) (List.getElem?_eq_none (Nat.le_refl _)) (by omega), q⟩
  | m + 1, i, e, h, hm, hi, q => by
    have hi' : i < ds.length := by omega
    obtain ⟨e1, h1, e2, h2, h3, h4⟩ := step i e h ds[i] q (List.getElem?_eq_getElem hi')
    obtain ⟨e', h', r1, r2⟩ := forV_inv I hl hv step m (i + 1) e2 h2 (by omega) hi' h4
    refine ⟨e', h', ?_, r2⟩
    rw [forV_nx i (hv _ _ _ q) (List.getElem?_eq_getElem hi') (by omega)]
    unfold turnM
    rw [h1]
    rcases h3 with h3 | h3
    · simp only [h3]; exact r1
    · simp only [h3]; exact r1
theorem forS_inv (I : Nat → Ev → IH → Prop)
    (step : ∀ i e h d, I i e h → ds[i]? = some d → ∃ e1, g d e = some e1 ∧ ∃ e2 h2, (mb e1 h = .nx e2 h2 ∨ mb e1 h = .ct e2 h2) ∧ I (i + 1) e2 h2) :
    ∀ (m i : Nat) (e : Ev) (h : IH), ds.length - i = m → i ≤ ds.length → I i e h → ∃ e' h', forS g mb (ds.drop i) e h = .nx e' h' ∧ I ds.length e' h'
  | 0, i, e, h, hm, hi, q => by
    have : i = ds.length := by omega
    subst this
    exact ⟨e, h, by rw [List.drop_length]; rfl, q⟩
  | m + 1, i, e, h, hm, hi, q => by
    have hi' : i < ds.length := by omega
    obtain ⟨e1, h1, e2, h2, h3, h4⟩ := step i e h ds[i] q (List.getElem?_eq_getElem hi')
    obtain ⟨e', h', r1, r2⟩ := forS_inv I step m (i + 1) e2 h2 (by omega) hi' h4
    refine ⟨e', h', ?_, r2⟩
    rw [List.drop_eq_getElem_cons hi']
    show turnM g mb ds[i] e h (forS g mb (ds.drop (i + 1))) = _
    unfold turnM
    rw [h1]
    rcases h3 with h3 | h3
    · simp only [h3]; exact r1
    · simp only [h3]; exact r1
end
end Z
/-! Z15: enumerate of a tuple, which the layer below lacks. -/
namespace Zt
open PySem PySem.Spec PyProof.Rows L2
open AutoSeq1 (wpAny_loadPart')
theorem enumT_new (l : Addr) (its : Array Value) :
    Meets (Builtin.«enumerate.__new__» ⟨[.type "enumerate", .ref l], []⟩) (fun _ R s => s.heap.IsTuple l its ∧ R (.ok (.ret (.ref (s.heap.push { cls := .type "tuple_iterator", data := .fields #[.ref l, .int 0 0] }).objs.size)))
        { s with heap := (s.heap.push { cls := .type "tuple_iterator", data := .fields #[.ref l, .int 0 0] }).push { cls := .type "enumerate", data := .fields #[.none, .bool false, .ref s.heap.objs.size, rawInt 0, .none, .none] } }) :=
  .of_wp fun prog w A R s h => by
    obtain ⟨hp, g, d, tk, os⟩ := s; obtain ⟨hl, h⟩ := h; have hsub := sub_enumerate; have hT : Heap.IsTuple (Shared.heap ⟨hp, g, d, tk, os⟩) l its := hl; obtain ⟨ot, hot, _⟩ := id hl
    wp_walk using wpAny_loadPart' hot, wpAny_pyIter_tuple hT
    refine wpAny_stack_any fun st => wpAny_pure ?_; split
    · rename_i c _ _ _ _ _; cases (c == Value.type "enumerate") <;> (wp_walk using wpAny_loadPart' hot, wpAny_pyIter_tuple hT; exact ⟨_, rfl, h⟩)
    · wp_walk using wpAny_loadPart' hot, wpAny_pyIter_tuple hT; exact ⟨_, rfl, h⟩
section
variable {prog : Program} {w : World} {A : Around} {E : Value → Shared → Prop} {s : Shared}
theorem call_enumT {l : Addr} {its : Array Value} {Q : Value → Shared → Prop} (hL : s.heap.IsTuple l its)
    (h : ∀ h', IsEnum h' (s.heap.objs.size + 1) s.heap.objs.size 0 .none → h'.IsTupleIter s.heap.objs.size l 0 → (∀ b o, s.heap.get? b = some o → h'.get? b = some o) → Q (.ref (s.heap.objs.size + 1)) { s with heap := h' }) :
    wpAny (model prog w) A (call (.type "enumerate") [.ref l]) Q E s := by
  refine callType_new F.called_enumerate (by decide) (F.typeCall_enumerate_1 _) (F.newCall_enumerate_1 _) (fun obj => F.args_object_init_2 obj _) F.entry_enumerate_new (enumT_new l its) ⟨hL, ?_⟩
  have hz : (s.heap.push { cls := .type "tuple_iterator", data := .fields #[.ref l, .int 0 0] }).objs.size = s.heap.objs.size + 1 := Heap.size_push ..
  show _ ∧ _; rw [hz]
  have he : IsEnum ((s.heap.push { cls := .type "tuple_iterator", data := .fields #[.ref l, .int 0 0] }).push { cls := .type "enumerate", data := .fields #[.none, .bool false, .ref s.heap.objs.size, rawInt 0, .none, .none] }) (s.heap.objs.size + 1) s.heap.objs.size 0 .none := by
    have q := Heap.get?_push_size (s.heap.push { cls := .type "tuple_iterator", data := .fields #[.ref l, .int 0 0] }) (o := { cls := .type "enumerate", data := .fields #[.none, .bool false, .ref s.heap.objs.size, rawInt 0, .none, .none] }) rfl
    rw [hz] at q; exact q
  exact ⟨⟨_, he, rfl⟩, h _ he ⟨_, Heap.get?_push_of_some _ (Heap.get?_push_size _ rfl), rfl, rfl⟩ fun b o x => Heap.get?_push_of_some _ (Heap.get?_push_of_some _ x)⟩
/-- one turn of an enumeration, over whatever is within -/
theorem enum_turn {e it : Addr} {i : Nat} {x old : Value} {J : Heap → Prop} {Q : Value → Shared → Prop} (he : IsEnum s.heap e it i old) (hne : e ≠ it) (hJ : ∀ h h' : Heap, J h → (∀ o, h.get? it = some o → h'.get? it = some o) → J h')
    (nx : ∀ (Q' : Value → Shared → Prop), (∀ h', J h' → Heap.SameBut it s.heap h' → Q' x { s with heap := h' }) → wpAny (model prog w) A (Builtin.SmallTypes.nextOf (.ref it)) Q' E s)
    (hQ : ∀ h', IsEnumOut h' e it ((i : Int) + 1) x s.heap.objs.size → J h' → h'.get? s.heap.objs.size = some { cls := .type "tuple", data := .seq #[.int i s.toks, x] } →
      (∀ b o, b ≠ e → b ≠ it → s.heap.get? b = some o → h'.get? b = some o) → Q (.ref s.heap.objs.size) { s with heap := h', toks := s.toks + 1 }) :
    wpAny (model prog w) A (Builtin.«enumerate.__next__» ⟨[.ref e], []⟩) (fun fin s' => ∃ v, fin = .done (.ret v) ∧ Q v s') E s := by
  obtain ⟨hp, g, d, tk, os⟩ := s
  show wpAny _ _ (field (.ref e) 2 >>= _) _ _ _; refine wpAny_bind (wpAny_field he rfl (x := .ref it) rfl ?_)
  refine wpAny_bind (nx _ fun h₁ j₁ hs₁ => ?_); replace hs₁ : Heap.SameBut it hp h₁ := hs₁
  have he₁ : IsEnum h₁ e it i old := (hs₁.2 e hne).trans he
  show wpAny _ _ (field (.ref e) 3 >>= _) _ _ ⟨h₁, g, d, tk, os⟩; refine wpAny_bind (wpAny_field he₁ rfl (x := rawInt i) rfl ?_)
  show wpAny _ _ (field (.ref e) 4 >>= _) _ _ ⟨h₁, g, d, tk, os⟩; refine wpAny_bind (wpAny_field he₁ rfl (x := .none) rfl ?_)
  show wpAny _ _ (mkInt i >>= _) _ _ ⟨h₁, g, d, tk, os⟩; refine wpAny_bind (wpAny_mkInt ?_)
  show wpAny _ _ (setField (.ref e) 3 (rawInt ((i : Int) + 1)) >>= _) _ _ ⟨h₁, g, d, tk + 1, os⟩; refine wpAny_bind (wpAny_setField_rec he₁ (by simp) fun h₂ he₂ hs₂ => ?_)
  replace hs₂ : Heap.SameBut e h₁ h₂ := hs₂; replace he₂ : IsEnum h₂ e it ((i : Int) + 1) old := he₂
  show wpAny _ _ (setField (.ref e) 4 .none >>= _) _ _ ⟨h₂, g, d, tk + 1, os⟩; refine wpAny_bind (wpAny_setField_rec he₂ (by simp) fun h₃ he₃ hs₃ => ?_)
  replace hs₃ : Heap.SameBut e h₂ h₃ := hs₃; replace he₃ : IsEnum h₃ e it ((i : Int) + 1) old := he₃
  show wpAny _ _ (newTuple [.int i tk, x] >>= _) _ _ ⟨h₃, g, d, tk + 1, os⟩; refine wpAny_bind (wpAny_newTuple ?_)
  have he₄ : IsEnum (h₃.push { cls := .type "tuple", data := .seq #[.int i tk, x] }) e it ((i : Int) + 1) old := Heap.get?_push_of_some _ he₃
  generalize hh₄ : h₃.push { cls := .type "tuple", data := .seq #[.int i tk, x] } = h₄ at he₄
  have hsz : h₃.objs.size = hp.objs.size := by rw [hs₃.1, hs₂.1, hs₁.1]
  have hel : e < hp.objs.size := Heap.lt_size he
  have ht₄ : h₄.get? hp.objs.size = some { cls := .type "tuple", data := .seq #[.int i tk, x] } := by rw [← hh₄, ← hsz]; exact Heap.get?_push_size _ rfl
  have hk₄ : ∀ b o, b ≠ e → b ≠ it → hp.get? b = some o → h₄.get? b = some o := fun b o n1 n2 q => by rw [← hh₄]; exact Heap.get?_push_of_some _ (hs₃.extBut b o n1 (hs₂.extBut b o n1 (hs₁.extBut b o n2 q)))
  have j₄ : J h₄ := hJ h₁ h₄ j₁ fun o q => by rw [← hh₄]; exact Heap.get?_push_of_some _ (hs₃.extBut it o (Ne.symm hne) (hs₂.extBut it o (Ne.symm hne) q))
  show wpAny _ _ (Builtin.SmallTypes.ownedTupleIsFree (.ref e) >>= _) _ _ ⟨h₄, g, d, tk + 1, os⟩
  rw [hsz]; clear hh₄ he₃ hs₃ he₂ hs₂ he₁ hs₁ j₁ hsz h₃ h₂ h₁
  refine wpAny_bind ?_; unfold Builtin.SmallTypes.ownedTupleIsFree
  refine wpAny_bind (wpAny_field he₄ rfl (x := .none) rfl (wpAny_pure ?_)); simp only [if_true]; refine wpAny_bind (wpAny_rule ?_)
  refine wpAny_bind (wpAny_field he₄ rfl (x := old) rfl ?_); refine wpAny_bind (wpAny_setField_rec he₄ (by simp) fun h₅ he₅ hs₅ => ?_)
  replace hs₅ : Heap.SameBut e h₄ h₅ := hs₅; replace he₅ : IsEnum h₅ e it ((i : Int) + 1) x := he₅
  show wpAny _ _ (Builtin.SmallTypes.ownedTupleHandOut (.ref e) (.ref hp.objs.size) >>= _) _ _ ⟨h₅, g, d, tk + 1, os⟩
  refine wpAny_bind ?_; unfold Builtin.SmallTypes.ownedTupleHandOut
  refine wpAny_bind (wpAny_setField_rec he₅ (by simp) fun h₆ he₆ hs₆ => ?_); replace hs₆ : Heap.SameBut e h₅ h₆ := hs₆
  replace he₆ : IsEnumOut h₆ e it ((i : Int) + 1) x hp.objs.size := he₆; refine wpAny_setField_rec he₆ (by simp) fun h₇ he₇ hs₇ => ?_
  replace hs₇ : Heap.SameBut e h₆ h₇ := hs₇; replace he₇ : IsEnumOut h₇ e it ((i : Int) + 1) x hp.objs.size := he₇
  have stay : ∀ b o, b ≠ e → h₄.get? b = some o → h₇.get? b = some o := fun b o n q => hs₇.extBut b o n (hs₆.extBut b o n (hs₅.extBut b o n q))
  exact wpAny_bind (wpAny_letGo (wpAny_pure ⟨_, rfl, hQ h₇ he₇ (hJ h₄ h₇ j₄ fun o q => stay it o (Ne.symm hne) q) (stay _ _ (Nat.ne_of_gt hel) ht₄) fun b o n1 n2 q => stay b o n1 (hk₄ b o n1 n2 q)⟩))
theorem enumT_item {e it l : Addr} {i : Nat} {its : Array Value} {x old : Value} {Q : Option Value → Shared → Prop} (he : IsEnum s.heap e it i old) (hit : s.heap.IsTupleIter it l i) (hl : s.heap.IsTuple l its) (hx : its[i]? = some x) (hne : e ≠ it)
    (hQ : ∀ h', IsEnumOut h' e it ((i : Int) + 1) x s.heap.objs.size → h'.IsTupleIter it l (i + 1) → h'.get? s.heap.objs.size = some { cls := .type "tuple", data := .seq #[.int i s.toks, x] } →
      (∀ b o, b ≠ e → b ≠ it → s.heap.get? b = some o → h'.get? b = some o) → Q (some (.ref s.heap.objs.size)) { s with heap := h', toks := s.toks + 1 }) :
    wpAny (model prog w) A (pyNext (.ref e)) Q E s := by
  have hT : s.TypeIs (.ref e) "enumerate" := ⟨_, he, rfl⟩
  unfold pyNext
  exact wpAny_bind (wpAny_attempt (wpAny_callSpecial?_slot (name := Str.ofString "__next__") hT F.slot_enumerate_next (wpAny_call_entry F.slot_enumerate_next hT F.entry_enumerate_next
    (enum_turn (J := fun h => h.IsTupleIter it l (i + 1)) he hne (fun h h' j k => j.at k) (fun Q' q => RZ.nextOf_tuple_item hit hl hx fun h' a b => q h' a b) fun h' a b c k => wpAny_pure (hQ h' a b c k)) (F.args_enumerate_next_1 _))))
theorem enumT_end {e it l : Addr} {i : Nat} {its : Array Value} {old : Value} {Q : Option Value → Shared → Prop} (hh : A.handled = none) (he : IsEnum s.heap e it i old) (hit : s.heap.IsTupleIter it l i) (hl : s.heap.IsTuple l its) (hx : its[i]? = none)
    (hQ : ∀ h', Heap.ExtBut it s.heap h' → Q none { s with heap := h' }) : wpAny (model prog w) A (pyNext (.ref e)) Q E s := by
  have hT : s.TypeIs (.ref e) "enumerate" := ⟨_, he, rfl⟩
  unfold pyNext
  refine wpAny_bind (wpAny_attempt (wpAny_callSpecial?_slot (name := Str.ofString "__next__") hT F.slot_enumerate_next (wpAny_call_entry F.slot_enumerate_next hT F.entry_enumerate_next ?_ (F.args_enumerate_next_1 _))))
  show wpAny _ _ (field (.ref e) 2 >>= _) _ _ _; refine wpAny_bind (wpAny_field he rfl (x := .ref it) rfl ?_)
  refine wpAny_bind (RZ.nextOf_tuple_end hh hit hl hx fun h' x k hx' => ?_); obtain ⟨o, ho, hc⟩ := hx'
  exact wpAny_bind (wpAny_isInstance (T := "StopIteration") (b := true) ⟨o, ho, hc⟩ isSubtype_stop (wpAny_pure (hQ _ k)))
end
/-- the tuple at a, each item in a new pair -/
def IteT (K : PySem.W.Frag) (a : Addr) : It :=
  ⟨fun i H => ∃ (xs : List V) (x : V), SqT K H a xs ∧ xs[i]? = some x, fun i H v H' => ∃ T x, v = .ref T ∧ H T = none ∧ H' = upd H T (.tup [.int (i : Nat), x]) ∧ ∀ xs, SqT K H a xs → xs[i]? = some x, fun i H => ∃ xs : List V, SqT K H a xs ∧ xs.length ≤ i⟩
theorem turn_enumT {P : Program} {w : World} {K : PySem.W.Frag} {elts : List Expr} {kk : Nat} {tpos : Pos} (a e it : Addr) :
    Turn P w K (.Tuple elts kk tpos) (IteT K a) [e, it] e (fun i h => (∃ old, IsEnum h e it ((i : Nat) : Int) old) ∧ h.IsTupleIter it a i ∧ e ≠ it) where
  mem := by simp
  obj := fun i h st b hb => by
    obtain ⟨⟨old, he⟩, ⟨o, ho, hc, hd⟩, _⟩ := st
    rcases (by simpa using hb : b = e ∨ b = it) with z | z
    · subst z; exact ⟨_, he, fun v' q' => nomatch q'⟩
    · subst z; exact ⟨o, ho, fun v' q' => by rw [hd] at q'; cases q'⟩
  keep := fun i h h' st k => let ⟨⟨old, he⟩, hi, hne⟩ := st; ⟨⟨old, k e (by simp) _ he⟩, hi.at fun o q => k it (by simp) o q, hne⟩
  item := by
    intro X hP hw hK hc i pins s σ H E I hf st hg
    subst hP hw hK
    obtain ⟨⟨⟨old, he⟩, hit, hne⟩, ⟨xs, x, hq, hx⟩⟩ := And.intro st hg
    obtain ⟨its, rv, p, hz⟩ := I.tuple hq; obtain ⟨u, hu, ru⟩ := rv.get hx
    have hel : e < s.heap.objs.size := Heap.lt_size he; have hil : it < s.heap.objs.size := by obtain ⟨_, q, _⟩ := hit; exact Heap.lt_size q
    refine enumT_item he hit p (x := u) (by simpa using hu) hne fun h' ho hit' hT hk => ?_
    refine ⟨_, rfl, wpAny_letOwnedTupleGo_enum (s := { s with heap := h', toks := s.toks + 1 }) ho fun h'' he' sb => ?_⟩
    have hT2 : h''.get? s.heap.objs.size = some { cls := .type "tuple", data := .seq #[.int i s.toks, u] } := (sb.2 _ (Nat.ne_of_gt hel)).trans hT
    have new : ObjOk X.prog X.w (upd H s.heap.objs.size (.tup [.int (i : Nat), x])) h'' s.heap.objs.size (.tup [.int (i : Nat), x]) := ⟨by show 2 ≤ sizeLine; decide, [.int i s.toks, u], .cons ⟨_, rfl⟩ (.cons ru .nil), ⟨_, hT2, rfl, _, rfl⟩⟩
    have I1 : Inv X pins σ (upd H s.heap.objs.size (.tup [.int (i : Nat), x])) { s with heap := h'', toks := s.toks + 1 } :=
      I.turnedNew (ch := [e, it]) (fun b ob hb q => have n1 : b ≠ e := fun z => hb (by simp [z]); have n2 : b ≠ it := fun z => hb (by simp [z]); (sb.2 b n1).trans (hk b ob n1 n2 q)) hf (Nat.le_refl _) new
    refine ⟨.ref s.heap.objs.size, _, I1, rfl, ⟨_, x, rfl, I.hok.fresh (Nat.le_refl _), rfl, fun ys hy => by rw [I.tuple_inj hy hq]; exact hx⟩, ⟨⟨u, ?_⟩, hit'.at fun o q => (sb.2 it (Ne.symm hne)).trans q, hne⟩, fun b hb => ?_⟩
    · rw [show ((i + 1 : Nat) : Int) = (i : Int) + 1 by omega]; exact he'
    · have hb' : b < s.heap.objs.size := (by simpa using hb : b = e ∨ b = it).elim (fun z => by rw [z]; exact hel) fun z => by rw [z]; exact hil
      rw [upd_ne (Nat.ne_of_lt hb')]; exact (hf b hb).1
  done := by
    intro X hP hw hK hc i pins s σ H E I hf st hg
    subst hP hw hK
    obtain ⟨⟨⟨old, he⟩, hit, hne⟩, ⟨xs, hq, hx⟩⟩ := And.intro st hg
    obtain ⟨its, rv, p, hz⟩ := I.tuple hq; obtain ⟨f0, f1, f2, f3, f4, f5⟩ := hf it (by simp); have hl := rv.length
    exact enumT_end (I.ok.hd hc) he hit p (by simp; omega) fun h' eb => ⟨rfl, I.turned (t' := s.toks) (fun b o hb q => eb b o hb q) f0 f1 f3 f4 f5⟩
  self := fun A i s Q E st h => let ⟨⟨_, he⟩, _⟩ := st; wpAny_pyIter_enum he h
def iEnumT (K : PySem.W.Frag) (ta : TA) : TI := fun σ H R => ta σ H fun vs H1 => ∃ a xs, vs = [.ref a] ∧ SqT K H1 a xs ∧ R (IteT K a) H1
theorem pi_enumT {X : Cx} {e : Expr} {ta : TA} {p pos tpos : Pos} {elts : List Expr} {kk : Nat} (hg : Gl X "enumerate") (hm : X.mg "enumerate" = none) (ha : PA X [e] ta) (hs : starEach [e] X.env = [(false, eval e X.env)] := by rfl) :
    PI X (.Tuple elts kk tpos) (.Call (.Name "enumerate" p) [e] [] pos) (iEnumT X.K ta) := by
  refine ⟨fun pins s σ H R I h => ?_⟩
  refine Call_ (ld_blt I hg hm boot_enumerate (PyProof.Rows.callWith_type1 (thn (ha.run pos pins s σ H _ I h) fun us s1 ⟨vs, H1, I1, r1, ⟨a, xs, ex, hq, q⟩⟩ => ?_) hs rfl))
  subst ex
  cases r1 with
  | cons r rr =>
    cases rr; cases r
    obtain ⟨its, rv, p', hz⟩ := I1.tuple hq
    refine call_enumT p' fun h' he hit hk => wpAny_pyIter_enum he ?_
    have I2 : Inv X pins σ H1 { s1 with heap := h' } := I1.kept (t' := s1.toks) hk
    refine ⟨s1.heap.objs.size + 1, [s1.heap.objs.size + 1, s1.heap.objs.size], _, _, H1, rfl, I2, turn_enumT a (s1.heap.objs.size + 1) s1.heap.objs.size, ⟨⟨.none, he⟩, hit, Nat.succ_ne_self _⟩, fun b hb => ?_, q⟩
    have hle : s1.heap.objs.size ≤ b := (by simpa using hb : b = s1.heap.objs.size + 1 ∨ b = s1.heap.objs.size).elim (fun z => by rw [z]; exact Nat.le_add_right _ _) fun z => by rw [z]; exact Nat.le_refl _
    exact I1.fpOk hle (I1.hok.fresh hle)
end Zt
/-! Z16: tuple(x); enumerate, zip; instances of own classes. -/
namespace Z
open PySem PySem.Spec PyProof.Rows L2
section
variable {xp : Option XP} {X : Cx} {a b e o : Expr} {es : List Expr} {ma mb mo : ME} {ms : MA} {p pos : Pos} {tg : Expr}
/-! ### tuple(x) -/
def tupleF : MF := fun ds h => match ds with
  | [.tup xs] => .ok (.tup xs) h
  | [.fz xs] => .ok (.tup xs) h
  | [.ref n] => match h[n]? with
    | some (.lst xs) => .ok (.tup xs) h
    | _ => .stuck
  | _ => .stuck
theorem c_tuple : SC X (.type "tuple") tupleF := ⟨_, call_tuple_of, fun W ρ ih H σ Q ds vs rl rv post => by
  unfold tupleF at post
  split at post
  · cases rv with
    | cons q t =>
      cases t
      cases q with
      | @tup a vs xs h1 h2 => exact ⟨_, vs, rfl, .inr ⟨h1, post ρ _ H .refl rl (.tup h1 h2)⟩⟩
  · cases rv with
    | cons q t =>
      cases t
      cases q with
      | @fz a vs xs h1 h2 => exact ⟨_, vs, rfl, .inl ⟨h1.sq, fun l hl => post ρ _ _ (Ext.fresh hl) (rl.aside hl) (.tup (SqT.of upd_same) (h2.ext (Ext.fresh hl)))⟩⟩
  · cases rv with
    | cons q t =>
      cases t
      cases q with
      | @ref n a h1 =>
        split at post
        · rename_i xs hn
          obtain ⟨vs, hv, r⟩ := rl.lst h1 hn
          exact ⟨_, vs, rfl, .inl ⟨SqL.of hv, fun l hl => post ρ _ _ (Ext.fresh hl) (rl.aside hl) (.tup (SqT.of upd_same) (r.ext (Ext.fresh hl)))⟩⟩
        · exact post.elim
  · exact post.elim⟩
/-! ### enumerate -/
def enD : Nat → List D → List D
  | _, [] => []
  | i, d :: ds => .tup [.int (i : Nat), d] :: enD (i + 1) ds
theorem enD_length : ∀ {i : Nat} {ds : List D}, (enD i ds).length = ds.length
  | _, [] => rfl
  | i, d :: ds => congrArg Nat.succ enD_length
theorem enD_get : ∀ {i j : Nat} {ds : List D}, (enD i ds)[j]? = (ds[j]?).map fun d => .tup [.int ((i + j : Nat) : Int), d]
  | _, _, [] => by simp [enD]
  | i, 0, d :: ds => by simp [enD]
  | i, j + 1, d :: ds => by
    have e : i + 1 + j = i + (j + 1) := by omega
    rw [enD, List.getElem?_cons_succ, List.getElem?_cons_succ, enD_get, e]
def enumI (ma : ME) : MI := fun env h => (ma env h).bind fun d h => match d with
  | .tup ds => .ok (.snap (enD 0 ds)) h
  | .fz ds => .ok (.snap (enD 0 ds)) h
  | .ref n => match h[n]? with
    | some (.lst _) => .ok (.live fun h => (viewL n h).map (enD 0)) h
    | _ => .stuck
  | _ => .stuck
theorem pair_ok {K : PySem.W.Frag} {ρ : Rho} {H H' : Hp} {ih : IH} {T : Addr} {d e : D} {x y : V} (rl : RelH K ρ ih H) (hT : H T = none) (hH : H' = upd H T (.tup [x, y])) (r1 : RepV K ρ H d x) (r2 : RepV K ρ H e y) :
    Ext ρ H ρ H' ∧ RelH K ρ ih H' ∧ RepV K ρ H' (.tup [d, e]) (.ref T) := by
  subst hH
  exact ⟨Ext.fresh hT, rl.aside hT, .tup (SqT.of upd_same) (.cons (r1.ext (Ext.fresh hT)) (.cons (r2.ext (Ext.fresh hT)) .nil))⟩
theorem ite_ls {K : PySem.W.Frag} {ρ : Rho} {H : Hp} {a : Addr} {vs : List V} {ds : List D} (h1 : SqF K H a vs) (h2 : RepL K ρ H ds vs) : ItS K (Ite K a) ρ H (enD 0 ds) where
  go := fun i d ρ' H' ih x rl e => by
    rw [enD_get] at e
    obtain ⟨d0, e0, rfl⟩ := Option.map_eq_some_iff.mp e
    obtain ⟨v, e1, r1⟩ := h2.get e0
    refine ⟨⟨vs, v, (x.sqF h1).sq, e1⟩, fun y H2 ⟨T, u, ey, hT, eH, hu⟩ => ?_⟩
    have q := hu vs (x.sqF h1).sq
    rw [e1] at q
    cases q
    subst ey
    rw [Nat.zero_add]
    exact pair_ok rl hT eH (.int _) (r1.ext x)
  stop := fun ρ' H' x => ⟨vs, (x.sqF h1).sq, by rw [enD_length, h2.length]; exact Nat.le_refl _⟩
theorem ite_ts {K : PySem.W.Frag} {ρ : Rho} {H : Hp} {a : Addr} {vs : List V} {ds : List D} (h1 : SqT K H a vs) (h2 : RepL K ρ H ds vs) : ItS K (Zt.IteT K a) ρ H (enD 0 ds) where
  go := fun i d ρ' H' ih x rl e => by
    rw [enD_get] at e
    obtain ⟨d0, e0, rfl⟩ := Option.map_eq_some_iff.mp e
    obtain ⟨v, e1, r1⟩ := h2.get e0
    refine ⟨⟨vs, v, x.sqT h1, e1⟩, fun y H2 ⟨T, u, ey, hT, eH, hu⟩ => ?_⟩
    have q := hu vs (x.sqT h1)
    rw [e1] at q
    cases q
    subst ey
    rw [Nat.zero_add]
    exact pair_ok rl hT eH (.int _) (r1.ext x)
  stop := fun ρ' H' x => ⟨vs, x.sqT h1, by rw [enD_length, h2.length]; exact Nat.le_refl _⟩
theorem viewL_some {k : Nat} {h : IH} {ds : List D} (e : viewL k h = some ds) : h[k]? = some (.lst ds) := by
  unfold viewL at e
  split at e
  · rename_i ds' q; cases e; exact q
  · cases e
theorem ite_rs {K : PySem.W.Frag} {ρ : Rho} {H : Hp} {n : Nat} {a : Addr} (ha : ρ.as[n]? = some a) : ItV K (Ite K a) ρ H (fun h => (viewL n h).map (enD 0)) where
  go := fun i d ρ' H' ih ds x rl ev e => by
    obtain ⟨ds0, ev0, rfl⟩ := Option.map_eq_some_iff.mp ev
    obtain ⟨vs, hv, rv⟩ := rl.lst (x.get ha) (viewL_some ev0)
    rw [enD_get] at e
    obtain ⟨d0, e0, rfl⟩ := Option.map_eq_some_iff.mp e
    obtain ⟨v, e1, r1⟩ := rv.get e0
    refine ⟨⟨vs, v, SqL.of hv, e1⟩, fun y H2 ⟨T, u, ey, hT, eH, hu⟩ => ?_⟩
    have q := hu vs (SqL.of hv)
    rw [e1] at q
    cases q
    subst ey
    rw [Nat.zero_add]
    exact pair_ok rl hT eH (.int _) r1
  stop := fun i ρ' H' ih ds x rl ev e => by
    obtain ⟨ds0, ev0, rfl⟩ := Option.map_eq_some_iff.mp ev
    obtain ⟨vs, hv, rv⟩ := rl.lst (x.get ha) (viewL_some ev0)
    have := List.getElem?_eq_none_iff.mp e
    rw [enD_length] at this
    exact ⟨vs, SqL.of hv, by rw [← rv.length]; exact this⟩
theorem si_enum {elts : List Expr} {kk : Nat} {tpos : Pos} (hg : Gl X "enumerate") (hm : X.mg "enumerate" = none) (A : SA xp X [e] ms) (hs : starEach [e] X.env = [(false, eval e X.env)] := by rfl) :
    SI xp X (.Tuple elts kk tpos) (.Call (.Name "enumerate" p) [e] [] pos) (enumI fun env h => (ms env h).bind fun ds h => match ds with | [d] => .ok d h | _ => .stuck) := fun W tk => by
  obtain ⟨ta, pa, ha⟩ := A W tk
  refine ⟨_, pi_or (pi_enum hg hm pa hs) (Zt.pi_enumT hg hm pa hs), fun ρ env ih σ H Q rl post => ?_⟩
  have post : PostI X.K X.mg W ρ σ H Q (((ms env ih).bind fun ds h => match ds with | [d] => (.ok d h : R D) | _ => .stuck).bind fun d h => match d with
    | .tup ds => (.ok (.snap (enD 0 ds)) h : R Src)
    | .fz ds => .ok (.snap (enD 0 ds)) h
    | .ref n => match h[n]? with
      | some (.lst _) => .ok (.live fun h => (viewL n h).map (enD 0)) h
      | _ => .stuck
    | _ => .stuck) := post
  revert post
  cases q : ms env ih with
  | exc x h => intro post; exact .inl (ha ρ env ih σ H _ rl (by rw [q]; exact post))
  | stuck => exact fun post => post.elim
  | ok ds h1 =>
    intro post
    match ds, post, q with
    | [], post, q => exact post.elim
    | _ :: _ :: _, post, q => exact post.elim
    | [d], post, q =>
      cases d with
      | tup ds =>
        refine .inr (ha ρ env ih σ H _ rl (by
          rw [q]
          intro ρ1 vs H1 x1 r1 p1
          cases p1 with
          | cons pd pn =>
            cases pn
            cases pd with
            | @tup a vs _ h1 h2 => exact ⟨a, vs, rfl, h1, post ρ1 _ H1 x1 r1 (ite_ts h1 h2)⟩))
      | fz ds =>
        refine .inl (ha ρ env ih σ H _ rl (by
          rw [q]
          intro ρ1 vs H1 x1 r1 p1
          cases p1 with
          | cons pd pn =>
            cases pn
            cases pd with
            | @fz a vs _ h1 h2 => exact ⟨a, vs, rfl, h1.sq, post ρ1 _ H1 x1 r1 (ite_ls h1 h2)⟩))
      | ref n =>
        have post : PostI X.K X.mg W ρ σ H Q (match h1[n]? with
          | some (.lst _) => .ok (.live fun h => (viewL n h).map (enD 0)) h1
          | _ => .stuck) := post
        split at post
        · rename_i ds hn
          refine .inl (ha ρ env ih σ H _ rl (by
            rw [q]
            intro ρ1 vs H1 x1 r1 p1
            cases p1 with
            | cons pd pn =>
              cases pn
              cases pd with
              | @ref _ a h2 =>
                obtain ⟨vs, hv, rv⟩ := r1.lst h2 hn
                exact ⟨a, vs, rfl, SqL.of hv, post ρ1 _ H1 x1 r1 (ite_rs h2)⟩))
        · exact post.elim
      | _ => exact post.elim
/-! ### zip -/
def zipD : List D → List D → List D := List.zipWith fun x y => .tup [x, y]
theorem zipD_get {xs ys : List D} {i : Nat} {d : D} (e : (zipD xs ys)[i]? = some d) : ∃ x y, xs[i]? = some x ∧ ys[i]? = some y ∧ d = .tup [x, y] := by
  unfold zipD at e
  rw [List.getElem?_zipWith] at e
  split at e
  · rename_i x y h1 h2; cases e; exact ⟨x, y, h1, h2, rfl⟩
  · cases e
theorem zipD_stop {xs ys : List D} {i : Nat} (e : (zipD xs ys)[i]? = none) : xs.length ≤ i ∨ ys.length ≤ i := by
  have := List.getElem?_eq_none_iff.mp e
  unfold zipD at this
  rw [List.length_zipWith] at this
  omega
def zipI (ms : MA) : MI := fun env h => (ms env h).bind fun ds h => match ds with
  | [.tup xs, .tup ys] => .ok (.snap (zipD xs ys)) h
  | [.fz xs, .fz ys] => .ok (.snap (zipD xs ys)) h
  | [.ref n, .ref m] => match h[n]?, h[m]? with
    | some (.lst _), some (.lst _) => .ok (.live fun h => (viewL n h).bind fun xs => (viewL m h).map fun ys => zipD xs ys) h
    | _, _ => .stuck
  | _ => .stuck
theorem si_zip {elts : List Expr} {kk : Nat} {tpos : Pos} (hg : Gl X "zip") (hm : X.mg "zip" = none) (A : SA xp X [a, b] ms) (hs : starEach [a, b] X.env = (false, eval a X.env) :: starEach [b] X.env := by rfl) (hpl : (backTo pos (starEach [b] X.env)).any (·.1) = false := by rfl) :
    SI xp X (.Tuple elts kk tpos) (.Call (.Name "zip" p) [a, b] [] pos) (zipI ms) := fun W tk => by
  obtain ⟨ta, pa, ha⟩ := A W tk
  refine ⟨_, RZ.pi_zipA hg hm pa hs hpl, fun ρ env ih σ H Q rl post => ?_⟩
  refine fstA (ta := ta) ha rl (lkI (Q := Q)) post fun ρ1 ds h1 vs H1 e1 r1 p1 post => ?_
  split at post
  · rename_i xs ys
    cases p1 with
    | cons q1 t =>
      cases t with
      | cons q2 t =>
        cases t
        cases q1 with
        | @tup a us _ g1 g2 =>
          cases q2 with
          | @tup b ws _ k1 k2 =>
            refine ⟨a, b, us, ws, rfl, .inr ⟨g1, k1, post ρ1 _ H1 .refl r1 ?_⟩⟩
            refine (⟨fun i d ρ' H' ih x rl e => ?_, fun ρ' H' x => ?_⟩ : ItS X.K (RZ.ItzT X.K a b) ρ1 H1 (zipD xs ys))
            · obtain ⟨d1, d2, e1, e2, rfl⟩ := zipD_get e
              obtain ⟨v1, f1, s1⟩ := g2.get e1
              obtain ⟨v2, f2, s2⟩ := k2.get e2
              refine ⟨⟨us, ws, v1, v2, x.sqT g1, x.sqT k1, f1, f2⟩, fun y H2 ⟨T, u1, u2, ey, hT, eH, hu1, hu2⟩ => ?_⟩
              have z1 := hu1 us (x.sqT g1)
              have z2 := hu2 ws (x.sqT k1)
              rw [f1] at z1
              rw [f2] at z2
              cases z1
              cases z2
              subst ey
              exact pair_ok rl hT eH (s1.ext x) (s2.ext x)
            · refine ⟨us, ws, x.sqT g1, x.sqT k1, ?_⟩
              rw [← g2.length, ← k2.length]
              exact zipD_stop (List.getElem?_eq_none (Nat.le_refl _))
  · rename_i xs ys
    cases p1 with
    | cons q1 t =>
      cases t with
      | cons q2 t =>
        cases t
        cases q1 with
        | @fz a us _ g1 g2 =>
          cases q2 with
          | @fz b ws _ k1 k2 =>
            refine ⟨a, b, us, ws, rfl, .inl ⟨g1.sq, k1.sq, post ρ1 _ H1 .refl r1 ?_⟩⟩
            refine (⟨fun i d ρ' H' ih x rl e => ?_, fun ρ' H' x => ?_⟩ : ItS X.K (Itz X.K a b) ρ1 H1 (zipD xs ys))
            · obtain ⟨d1, d2, e1, e2, rfl⟩ := zipD_get e
              obtain ⟨v1, f1, s1⟩ := g2.get e1
              obtain ⟨v2, f2, s2⟩ := k2.get e2
              refine ⟨⟨us, ws, v1, v2, (x.sqF g1).sq, (x.sqF k1).sq, f1, f2⟩, fun y H2 ⟨T, u1, u2, ey, hT, eH, hu1, hu2⟩ => ?_⟩
              have z1 := hu1 us (x.sqF g1).sq
              have z2 := hu2 ws (x.sqF k1).sq
              rw [f1] at z1
              rw [f2] at z2
              cases z1
              cases z2
              subst ey
              exact pair_ok rl hT eH (s1.ext x) (s2.ext x)
            · refine ⟨us, ws, (x.sqF g1).sq, (x.sqF k1).sq, ?_⟩
              rw [← g2.length, ← k2.length]
              exact zipD_stop (List.getElem?_eq_none (Nat.le_refl _))
  · rename_i n m
    split at post
    · rename_i xs0 ys0 hn hm'
      cases p1 with
      | cons q1 t =>
        cases t with
        | cons q2 t =>
          cases t
          cases q1 with
          | @ref _ a g1 =>
            cases q2 with
            | @ref _ b k1 =>
              obtain ⟨us, hu, _⟩ := r1.lst g1 hn
              obtain ⟨ws, hw, _⟩ := r1.lst k1 hm'
              refine ⟨a, b, us, ws, rfl, .inl ⟨SqL.of hu, SqL.of hw, post ρ1 _ H1 .refl r1 ?_⟩⟩
              refine (⟨fun i d ρ' H' ih ds x rl ev e => ?_, fun i ρ' H' ih ds x rl ev e => ?_⟩ : ItV X.K (Itz X.K a b) ρ1 H1 (fun h => (viewL n h).bind fun xs => (viewL m h).map fun ys => zipD xs ys))
              · obtain ⟨xs, ev1, ev2⟩ := Option.bind_eq_some_iff.mp ev
                obtain ⟨ys, ev3, rfl⟩ := Option.map_eq_some_iff.mp ev2
                obtain ⟨us, hu, ru⟩ := rl.lst (x.get g1) (viewL_some ev1)
                obtain ⟨ws, hw, rw'⟩ := rl.lst (x.get k1) (viewL_some ev3)
                obtain ⟨d1, d2, e1, e2, rfl⟩ := zipD_get e
                obtain ⟨v1, f1, s1⟩ := ru.get e1
                obtain ⟨v2, f2, s2⟩ := rw'.get e2
                refine ⟨⟨us, ws, v1, v2, SqL.of hu, SqL.of hw, f1, f2⟩, fun y H2 ⟨T, u1, u2, ey, hT, eH, hu1, hu2⟩ => ?_⟩
                have z1 := hu1 us (SqL.of hu)
                have z2 := hu2 ws (SqL.of hw)
                rw [f1] at z1
                rw [f2] at z2
                cases z1
                cases z2
                subst ey
                exact pair_ok rl hT eH s1 s2
              · obtain ⟨xs, ev1, ev2⟩ := Option.bind_eq_some_iff.mp ev
                obtain ⟨ys, ev3, rfl⟩ := Option.map_eq_some_iff.mp ev2
                obtain ⟨us, hu, ru⟩ := rl.lst (x.get g1) (viewL_some ev1)
                obtain ⟨ws, hw, rw'⟩ := rl.lst (x.get k1) (viewL_some ev3)
                refine ⟨us, ws, SqL.of hu, SqL.of hw, ?_⟩
                rw [← ru.length, ← rw'.length]
                exact zipD_stop e
    · exact post.elim
  · exact post.elim
/-! ### fields of instances -/
/-- which fields of which classes may be read -/
def OwnF (K : PySem.W.Frag) (fok : Str → Str → Bool) : Prop := ∀ c f, fok c f = true → Cls K (He.ga K c) ∧ NoAttr K (He.ga K c) f
def insAt (h : IH) : D → Option (Nat × Str × List (Str × D))
  | .ref n => match h[n]? with
    | some (.ins c fs) => some (n, c, fs)
    | _ => none
  | _ => none
theorem insAt_some {h : IH} {d : D} {n : Nat} {c : Str} {fs : List (Str × D)} (e : insAt h d = some (n, c, fs)) : d = .ref n ∧ h[n]? = some (.ins c fs) := by
  unfold insAt at e
  split at e
  · split at e
    · rename_i q; cases e; exact ⟨rfl, q⟩
    · cases e
  · cases e
theorem insAt_ok {K : PySem.W.Frag} {ρ : Rho} {ih : IH} {H : Hp} (rl : RelH K ρ ih H) {d : D} {v : V} {n : Nat} {c : Str} {fs : List (Str × D)} (e : insAt ih d = some (n, c, fs)) (r : RepV K ρ H d v) :
    ∃ a dx vs, v = .ref a ∧ ρ.as[n]? = some a ∧ H a = some (.ins (He.ga K c) dx vs) ∧ RepF K ρ H fs vs := by
  obtain ⟨rfl, e2⟩ := insAt_some e
  cases r with
  | @ref _ a h1 =>
    obtain ⟨dx, vs, h2, h3⟩ := rl.obj n a _ h1 e2
    exact ⟨a, dx, vs, rfl, h1, h2, h3⟩
theorem RepF.none {K : PySem.W.Frag} {ρ : Rho} {H : Hp} {f : Str} : ∀ {ds : List (Str × D)} {vs : List (Str × V)}, RepF K ρ H ds vs → ds.lookup f = none → vs.lookup f = none
  | _, _, .nil, _ => rfl
  | _, _, .cons (f := g) r t, h => by
    rw [List.lookup_cons] at h ⊢
    cases c : (f == g) with
    | true => rw [c] at h; cases h
    | false => rw [c] at h; exact RepF.none t h
def fldM (fok : Str → Str → Bool) (f : Str) (ma : ME) : ME := fun env h => (ma env h).bind fun d h => match insAt h d with
  | some (_, c, fs) => if fok c f = true then (match fs.lookup f with
    | some v => .ok v h
    | none => .stuck) else .stuck
  | none => .stuck
theorem s_fld {fok : Str → Str → Bool} {f : Str} (T : OwnF X.K fok) (A : SE xp X a ma) (hb : attributeBase a f X.env (eval a X.env) = eval a X.env := by rfl) : SE xp X (.Attribute a f pos) (fldM fok f ma) := fun W tk => by
  obtain ⟨ta, pa, ha⟩ := A W tk
  refine ⟨_, pe_fld pa hb, fun ρ env ih σ H Q rl post => ?_⟩
  refine fstE (ta := ta) ha rl (lkE (Q := Q)) post fun ρ1 d h1 v H1 e1 r1 p1 post => ?_
  split at post
  · rename_i n c fs q
    split at post
    · rename_i hf
      obtain ⟨a, dx, vs, rfl, _, h2, h3⟩ := insAt_ok r1 q p1
      split at post
      · rename_i u hu
        obtain ⟨v, h4, h5⟩ := h3.get hu
        obtain ⟨t1, t2⟩ := T c f hf
        exact ⟨a, _, dx, vs, v, rfl, h2, t1, t2, h4, post ρ1 v H1 .refl r1 h5⟩
      · exact post.elim
    · exact post.elim
  · exact post.elim
def putD (f : Str) (d : D) : List (Str × D) → List (Str × D)
  | [] => [(f, d)]
  | (g, x) :: r => if g = f then (g, d) :: r else (g, x) :: putD f d r
theorem RepF.put {K : PySem.W.Frag} {ρ : Rho} {H : Hp} {f : Str} {d : D} {v : V} (r : RepV K ρ H d v) : ∀ {ds : List (Str × D)} {vs : List (Str × V)}, RepF K ρ H ds vs → RepF K ρ H (putD f d ds) (putF f v vs)
  | _, _, .nil => .cons r .nil
  | _, _, .cons (f := g) q t => by
    unfold putD putF
    split
    · exact .cons r t
    · exact .cons q (RepF.put r t)
theorem RepF.length {K : PySem.W.Frag} {ρ : Rho} {H : Hp} : ∀ {ds : List (Str × D)} {vs : List (Str × V)}, RepF K ρ H ds vs → ds.length = vs.length
  | _, _, .nil => rfl
  | _, _, .cons _ t => congrArg Nat.succ (RepF.length t)
theorem rewriteO {K : PySem.W.Frag} {ρ : Rho} {ih : IH} {H : Hp} (r : RelH K ρ ih H) {n : Nat} {a C dx : Addr} {c : Str} {vs us : List (Str × V)} {ds : List (Str × D)} (ha : ρ.as[n]? = some a) (hl : H a = some (.ins C dx us)) (hc : C = He.ga K c) (h : RepF K ρ H ds vs) :
    Ext ρ H ρ (upd H a (.ins C dx vs)) ∧ RelH K ρ (ih.set n (.ins c ds)) (upd H a (.ins C dx vs)) := by
  have hm : a ∈ ρ.as := List.mem_of_getElem? ha
  have x : Ext ρ H ρ (upd H a (.ins C dx vs)) :=
    ⟨List.prefix_refl _, fun _ z => .inl z, fun b u e hb => by rw [upd_ne (by rintro rfl; exact hb hm)]; exact e, fun b u e => by rw [upd_ne (by rintro rfl; rw [hl] at e; cases e)]; exact e,
      fun b u v e => by rw [upd_ne (by rintro rfl; rw [hl] at e; cases e)]; exact e, fun b u e => by rw [upd_ne (by rintro rfl; rw [hl] at e; cases e)]; exact e⟩
  refine ⟨x, by rw [r.len, List.length_set], r.nd, fun m b u e1 e2 => ?_⟩
  by_cases hmn : n = m
  · subst hmn
    rw [ha] at e1; cases e1
    have hn : n < ih.length := by rw [← r.len]; exact (List.getElem?_eq_some_iff.mp ha).1
    rw [List.getElem?_set_self hn] at e2
    cases e2
    exact ⟨dx, vs, by rw [← hc]; exact upd_same, h.ext x⟩
  · rw [List.getElem?_set_ne hmn] at e2
    have ne : b ≠ a := by
      rintro rfl
      obtain ⟨h1, q1⟩ := List.getElem?_eq_some_iff.mp e1
      obtain ⟨h2, q2⟩ := List.getElem?_eq_some_iff.mp ha
      exact hmn ((List.getElem_inj r.nd).mp (q2.trans q1.symm))
    exact (r.obj m b u e1 e2).ext x (upd_ne ne)
/-- o.f = e -/
def ostM (fok : Str → Str → Bool) (f : Str) (mo ma : ME) : MS := fun env h => (ma env h).thenS env fun d h => (mo env h).thenS env fun x h => match insAt h x with
  | some (n, c, fs) => if fok c f = true ∧ fs.length < 1000 then .nx env (h.set n (.ins c (putD f d fs))) else .stuck
  | none => .stuck
theorem st_ost {fok : Str → Str → Bool} {f : Str} {pos' : Pos} (T : OwnF X.K fok) (O : SE xp X o mo) (A : SE xp X a ma) (hs : swapsWith a (some (.Attribute o f pos')) pos.line X.env = pure false := by rfl) : SS xp X (.Assign [.Attribute o f pos'] a pos) (ostM fok f mo ma) := fun W tk => by
  obtain ⟨ta, pa, ha⟩ := A W tk
  obtain ⟨to, po, ho⟩ := O W tk
  refine ⟨_, ps_fld po pa hs, fun ρ env ih σ H N rl post => ?_⟩
  refine fstE (ta := ta) ha rl (lkS (N := N) rl) post fun ρ1 d h1 v H1 e1 r1 p1 post => ?_
  have rl1 := rl.next e1 r1
  refine fstE (ta := to) ho rl1 (lkS (N := N) rl1) post fun ρ2 x h2 u H2 e2 r2 p2 post => ?_
  split at post
  · rename_i n c fs q
    split at post
    · rename_i hf
      obtain ⟨a, dx, vs, rfl, h3, h4, h5⟩ := insAt_ok r2 q p2
      obtain ⟨t1, t2⟩ := T c f hf.1
      obtain ⟨x3, r3⟩ := rewriteO r2 h3 h4 rfl (RepF.put (f := f) (p1.ext e2) h5)
      exact ⟨a, _, dx, vs, rfl, h4, t1, t2, by rw [← h5.length]; exact hf.2, post ρ2 σ _ x3 ((rl1.next e2 r2).next x3 r3)⟩
    · exact post.elim
  · exact post.elim
end
/-! ### methods -/
/-- the method m of the class named c does F, for n arguments (itself the first), in k levels -/
structure FM (P : Program) (w : World) (K : PySem.W.Frag) (mg : Str → Option Value) (base : Heap) (c m : Str) (k n : Nat) (F : MF) : Prop where
  ex : ∃ (f : Addr) (fd : FuncData) (ps : List Str), Cls K (He.ga K c) ∧ Meth K (He.ga K c) m f ∧ Binds K fd ps [] ∧ FnOk P w K mg base (L2.CX P w) k f fd ps (spF K mg n F)
section
variable {X : Cx} {CX : CXT} {k : Nat} {f C : Addr} {fd : FuncData} {ps : List Str} {sp : Sp} {E : L2.St → XK} {x m : Str} {p pos apos : Pos} {e o : Expr} {es : List Expr} {ta : TE} {t : TA}
def tMethD (C : Addr) (m : Str) (sp : Sp) (E : L2.St → XK) (ta : TE) (t : TA) : TE := fun σ H Q => ta σ H fun x H1 => ∃ a dx fs, x = .ref a ∧ H1 a = some (.ins C dx fs) ∧ fs.lookup m = none ∧ t σ H1 fun vs H2 => sp (x :: vs) H2 Q (E σ)
theorem pe_methD {pl : Sem Bool} (he : PE X o ta) (c : Cls X.K C) (hm : Meth X.K C m f) (F : FnOk X.prog X.w X.K X.mg X.base CX k f fd ps sp) (hr : Room k X.A) (hb : Binds X.K fd ps []) (hx : ∀ σ, PassesAt CX X σ (E σ)) (ha : PA X (e :: es) t)
    (hst : starEach (e :: es) X.env = (false, eval e X.env) :: starEach es X.env := by rfl) (hpl : (backTo pos (starEach es X.env)).any (·.1) = false := by rfl)
    (ht : eval (.Call (.Attribute o m apos) (e :: es) [] pos) X.env = (do let ov ← eval o X.env; standAt apos.atName; let (f, first) ← holding [ov] (getMethod ov m pl); callWith pos f first (backTo pos (starEach (e :: es) X.env)) (backToKw pos (keywordEach [] X.env))) := by rfl) :
    PE X (.Call (.Attribute o m apos) (e :: es) [] pos) (tMethD C m sp E ta t) := by
  refine ⟨fun pins s σ H Q I h => PySem.W.methodCall_KW (pl := pl) (thn (he.run pins s σ H _ I h) fun u s1 ⟨x, H1, I1, rx, a, dx, fs, ex, ea, l, q⟩ => ?_) ht⟩
  subst ex; obtain rfl : u = Value.ref a := rx
  refine getmeth_ok I1 ea c hm l (PySem.W.callWith_K (first := [.ref a]) (h₀ := X.base) I.ok.mod.kin hm.kp (thn (ha.run pos pins s1 σ H1 _ I1 q) fun us s2 ⟨vs, H2, I2, r, q2⟩ => ⟨I2.kIn, ?_⟩) hst hpl)
  exact run_fnSD (us := .ref a :: us) (vs := .ref a :: vs) (dvs := []) (ds := []) F hr hb .nil (hx σ) I2 (.cons rfl r) (by rw [List.append_nil]; exact q2)
theorem pe_methD0 {pl : Sem Bool} (he : PE X o ta) (c : Cls X.K C) (hm : Meth X.K C m f) (F : FnOk X.prog X.w X.K X.mg X.base CX k f fd ps sp) (hr : Room k X.A) (hb : Binds X.K fd ps []) (hx : ∀ σ, PassesAt CX X σ (E σ))
    (ht : eval (.Call (.Attribute o m apos) [] [] pos) X.env = (do let ov ← eval o X.env; standAt apos.atName; let (f, first) ← holding [ov] (getMethod ov m pl); callWith pos f first (backTo pos (starEach [] X.env)) (backToKw pos (keywordEach [] X.env))) := by rfl) :
    PE X (.Call (.Attribute o m apos) [] [] pos) (tMethD C m sp E ta tNil) := by
  refine ⟨fun pins s σ H Q I h => PySem.W.methodCall_KW (pl := pl) (thn (he.run pins s σ H _ I h) fun u s1 ⟨x, H1, I1, rx, a, dx, fs, ex, ea, l, q⟩ => ?_) ht⟩
  subst ex; obtain rfl : u = Value.ref a := rx
  refine getmeth_ok I1 ea c hm l (PySem.W.callWith_K0 (first := [.ref a]) I1.kIn hm.kp ?_)
  exact run_fnSD (us := [.ref a]) (vs := [.ref a]) (dvs := []) (ds := []) F hr hb .nil (hx σ) I1 (.cons rfl .nil) (by rw [List.append_nil]; exact q)
end
section
variable {xp : Option XP} {X : Cx} {e o : Expr} {es : List Expr} {c m x : Str} {k j n : Nat} {F : MF} {ms : MA} {mo : ME} {p pos apos : Pos}
def omM (c m : Str) (F : MF) (mo : ME) (ms : MA) : ME := fun env h => (mo env h).bind fun d h => match insAt h d with
  | some (_, c', fs) => if c' = c ∧ fs.lookup m = none then (ms env h).bind fun ds h => F (d :: ds) h else .stuck
  | none => .stuck
theorem s_om (f : FM X.prog X.w X.K X.mg X.base c m k n F) (hr : Room j X.A) (hk : k ≤ j) (hl : (e :: es).length + 1 = n) (O : SE xp X o mo) (A : SA xp X (e :: es) ms)
    (hml : LenA (e :: es).length ms) {pl : Sem Bool} (hst : starEach (e :: es) X.env = (false, eval e X.env) :: starEach es X.env := by rfl) (hpl : (backTo pos (starEach es X.env)).any (·.1) = false := by rfl)
    (ht : eval (.Call (.Attribute o m apos) (e :: es) [] pos) X.env = (do let ov ← eval o X.env; standAt apos.atName; let (f, first) ← holding [ov] (getMethod ov m pl); callWith pos f first (backTo pos (starEach (e :: es) X.env)) (backToKw pos (keywordEach [] X.env))) := by rfl) :
    SE xp X (.Call (.Attribute o m apos) (e :: es) [] pos) (omM c m F mo ms) := fun W tk => by
  obtain ⟨to, po, ho⟩ := O W tk
  obtain ⟨ta, pa, ha⟩ := A W tk
  obtain ⟨fa, fd, ps, hc, hM, hb, hF⟩ := f.ex
  refine ⟨_, pe_methD po hc hM hF (hr.mono hk) hb (fun σ => passAt tk σ) pa hst hpl ht, fun ρ env ih σ H Q rl post0 => ?_⟩
  refine fstE (ta := to) ho rl (lkE (Q := Q)) post0 fun ρ1 d h1 v H1 e1 r1 p1 post => ?_
  have rl1 := rl.next e1 r1
  split at post
  · rename_i i c' fs q
    split at post
    · rename_i hc'
      obtain ⟨rfl, hm⟩ := hc'
      obtain ⟨a, dx, vs, rfl, h3, h4, h5⟩ := insAt_ok r1 q p1
      refine ⟨a, dx, vs, rfl, h4, h5.none hm, ?_⟩
      have hml := hml env h1
      revert post
      cases q2 : ms env h1 with
      | ok ds h2 =>
        intro post
        refine ha ρ1 env h1 σ H1 _ rl1 ?_
        rw [q2]
        intro ρ2 us H2 e2 r2 p2
        refine ⟨by rw [List.length_cons, ← p2.length, hml ds h2 q2]; exact hl, ρ2, d :: ds, h2, r2, .cons (p1.ext e2) p2, ?_⟩
        have post : PostE X.K X.mg W ρ2 σ H2 Q (F (d :: ds) h2) := PostE.ext post e2
        revert post
        cases F (d :: ds) h2 with
        | ok d h => exact fun post => post
        | exc x h => exact fun post => post
        | stuck => exact fun post => post
      | exc x h =>
        intro post
        refine ha ρ1 env h1 σ H1 _ rl1 ?_
        rw [q2]
        exact post
      | stuck => exact fun post => post.elim
    · exact post.elim
  · exact post.elim
theorem s_om0 (f : FM X.prog X.w X.K X.mg X.base c m k n F) (hr : Room j X.A) (hk : k ≤ j) (hl : 1 = n) (O : SE xp X o mo) {pl : Sem Bool}
    (ht : eval (.Call (.Attribute o m apos) [] [] pos) X.env = (do let ov ← eval o X.env; standAt apos.atName; let (f, first) ← holding [ov] (getMethod ov m pl); callWith pos f first (backTo pos (starEach [] X.env)) (backToKw pos (keywordEach [] X.env))) := by rfl) :
    SE xp X (.Call (.Attribute o m apos) [] [] pos) (omM c m F mo anilM) := fun W tk => by
  obtain ⟨to, po, ho⟩ := O W tk
  obtain ⟨fa, fd, ps, hc, hM, hb, hF⟩ := f.ex
  refine ⟨_, pe_methD0 po hc hM hF (hr.mono hk) hb (fun σ => passAt tk σ) ht, fun ρ env ih σ H Q rl post0 => ?_⟩
  refine fstE (ta := to) ho rl (lkE (Q := Q)) post0 fun ρ1 d h1 v H1 e1 r1 p1 post => ?_
  split at post
  · rename_i i c' fs q
    split at post
    · rename_i hc'
      obtain ⟨rfl, hm⟩ := hc'
      obtain ⟨a, dx, vs, rfl, h3, h4, h5⟩ := insAt_ok r1 q p1
      refine ⟨a, dx, vs, rfl, h4, h5.none hm, hl, ρ1, [d], h1, r1, .cons p1 .nil, ?_⟩
      have post : PostE X.K X.mg W ρ1 σ H1 Q (F [d] h1) := post
      revert post
      cases F [d] h1 with
      | ok d h => exact fun post => post
      | exc x h => exact fun post => post
      | stuck => exact fun post => post
    · exact post.elim
  · exact post.elim
end
/-! ### making instances -/
/-- the class named c is made by an __init__ that does F, for n values (self the first); ks: the names of those that are given by keyword -/
structure FI (P : Program) (w : World) (K : PySem.W.Frag) (mg : Str → Option Value) (base : Heap) (c : Str) (k n : Nat) (ks : List Str) (F : MF) : Prop where
  ex : ∃ (f : Addr) (fd : FuncData) (ps : List Str), mg c = some (.ref (He.ga K c)) ∧ Mk K (He.ga K c) f ∧ KBn K fd ps (n - ks.length) ks (fun us ws => us ++ ws) (fun vs zs => vs ++ zs) ∧ FnOk P w K mg base (L2.CX P w) k f fd ps (spF K mg n F)
theorem kbindsA {K : PySem.W.Frag} {x qual : Str} {params : Arguments} {body : List Stmt} {scope : Scope} {f : Addr} {fd : FuncData} {ps ks : List Str} (D : FunD K x qual params body scope [] [] f fd) (n : Nat)
    (h : ∀ (kV doc pm : Value) (an : Option Addr) (cdv ct : Value) (us ws : List Value), us.length = n → ws.length = ks.length → bindArgs (PySem.W.fnOf x qual params body scope .none kV doc pm an cdv ct) ⟨us, ks.zip ws⟩ = pure (ps.zip (us ++ ws))) :
    KBn K fd ps n ks (fun us ws => us ++ ws) (fun vs zs => vs ++ zs) := by
  obtain ⟨oc, od, dV, kV, doc, pm, an, cdv, ct, osl, rfl, lk, hcd, hD, hK⟩ := D.ex
  rcases hD with ⟨_, rfl⟩ | ⟨e, _⟩
  · exact ⟨fun s us ws _ l1 l2 => .of_eq (h kV doc pm an cdv ct us ws l1 l2), fun r1 r2 => r1.append r2⟩
  · exact absurd rfl e
section
variable {X : Cx} {CX : CXT} {k n : Nat} {f C : Addr} {fd : FuncData} {ps ks : List Str} {sp : Sp} {E : L2.St → XK} {x : Str} {p pos : Pos} {e : Expr} {es : List Expr} {kws : List Keyword} {t tk : TA}
def tMakeD (C : Addr) (n m : Nat) (sp : Sp) (E : L2.St → XK) (t tk : TA) : TE := fun σ H Q => t σ H fun vs H1 => tk σ H1 fun zs H2 => vs.length = n ∧ zs.length = m ∧ ∀ x dx, H2 x = none → H2 dx = none → dx ≠ x →
  sp (.ref x :: vs ++ zs) (upd (upd H2 dx (.own x)) x (.ins C dx [])) (fun v H3 => v = .non ∧ Q (.ref x) H3) (E σ)
theorem run_makeD {pins : List (Addr × Obj)} {σ : L2.St} {H : Hp} {s : Shared} {Q : VK} {us ws : List Value} {vs zs : List V} (M : Mk X.K C f) (F : FnOk X.prog X.w X.K X.mg X.base CX k f fd ps sp) (hr : Room (k + 1) X.A) (hb : KBn X.K fd ps (n + 1) ks (fun us ws => us ++ ws) (fun vs zs => vs ++ zs))
    (hx : PassesAt CX X σ (E σ)) (I : Inv X pins σ H s) (r : Vals vs us) (rz : Vals zs ws) (l1 : vs.length = n) (l2 : zs.length = ks.length)
    (h : ∀ x dx, H x = none → H dx = none → dx ≠ x → sp (.ref x :: vs ++ zs) (upd (upd H dx (.own x)) x (.ins C dx [])) (fun v H2 => v = .non ∧ Q (.ref x) H2) (E σ)) :
    wpAny (model X.prog X.w) X.A (call (.ref C) us (ks.zip ws)) (EP X pins σ Q) X.xe s := by
  have hq := h (s.heap.objs.size + 1) s.heap.objs.size (I.hok.fresh (Nat.le_succ _)) (I.hok.fresh (Nat.le_refl _)) (Nat.ne_of_lt (Nat.lt_succ_self _))
  have I2 := Inv.made (C := C) I; have r1 : Vals (V.ref (s.heap.objs.size + 1) :: vs) (Value.ref (s.heap.objs.size + 1) :: us) := .cons rfl r; have r2 := hb.rel r1 rz
  have n1 : (Value.ref (s.heap.objs.size + 1) :: us).length = n + 1 := by rw [List.length_cons, ← r.length, l1]
  refine wpAny_call (make_map (f := f) I.kIn M.makes M.init (beq_iff_eq.mp M.fn) (codeAny_mono (F.run _ X.stack _ _ ⟨Value.ref (s.heap.objs.size + 1) :: us, ks.zip ws⟩ (Value.ref (s.heap.objs.size + 1) :: us ++ ws) _ _ (E σ) (hr.make C us (ks.zip ws)) (I2.env0.make C us (ks.zip ws)) (hb.to _ (Value.ref (s.heap.objs.size + 1) :: us) ws I2.kIn n1 (rz.length.symm.trans l2)) r2 hq) fun r s' hq' => ?_))
  cases r with
  | error e => exact hx pins _ _ e s' I2 hq'
  | ok fl =>
    cases fl with
    | ret u => obtain ⟨v, H', I3, rv, ev, q3⟩ := I2.after hq'; subst ev; exact ⟨rv, ⟨V.ref (s.heap.objs.size + 1), H', I3, rfl, q3⟩⟩
    | next => exact hq'.elim
    | brk => exact hq'.elim
    | cont => exact hq'.elim
theorem pe_makeDk (M : Mk X.K C f) (F : FnOk X.prog X.w X.K X.mg X.base CX k f fd ps sp) (hr : Room (k + 1) X.A) (hg : Gl X x) (hm : X.mg x = some (.ref C)) (hb : KBn X.K fd ps 1 ks (fun us ws => us ++ ws) (fun vs zs => vs ++ zs)) (hx : ∀ σ, PassesAt CX X σ (E σ)) (hkw : PK X kws tk)
    (hall : (backToKw pos (keywordEach kws X.env)).all (·.1.isSome) = true := by rfl) (hks : (backToKw pos (keywordEach kws X.env)).filterMap (·.1) = ks := by rfl) (hdb : (x == ("__debug__" : Str)) = false := by decide)
    (hpl : ((backTo pos (starEach [] X.env)).any (·.1) || (backToKw pos (keywordEach kws X.env)).any (·.1.isNone)) = false := by rfl) : PE X (.Call (.Name x p) [] kws pos) (tMakeD C 0 ks.length sp E tNil tk) :=
  ⟨fun pins s σ H Q I h => wpAny_Call_Name_kw (ld_glob I hg hm (PySem.W.callWith_KW0 (h₀ := X.base) I.ok.mod.kin M.kp hall (thn (hkw.run pos pins s σ H _ I h) fun ws s2 ⟨zs, H2, I2, rz, l1, l2, q2⟩ => ⟨I2.kIn, by rw [hks]; exact run_makeD (us := []) (vs := []) M F hr hb (hx σ) I2 .nil rz rfl l2 q2⟩) hpl) hdb)⟩
theorem pe_makeDp (M : Mk X.K C f) (F : FnOk X.prog X.w X.K X.mg X.base CX k f fd ps sp) (hr : Room (k + 1) X.A) (hg : Gl X x) (hm : X.mg x = some (.ref C)) (hb : KBn X.K fd ps (n + 1) [] (fun us ws => us ++ ws) (fun vs zs => vs ++ zs)) (hx : ∀ σ, PassesAt CX X σ (E σ)) (ha : PA X (e :: es) t)
    (hdb : (x == ("__debug__" : Str)) = false := by decide) (he : starEach (e :: es) X.env = (false, eval e X.env) :: starEach es X.env := by rfl) (hpl : (backTo pos (starEach es X.env)).any (·.1) = false := by rfl) :
    PE X (.Call (.Name x p) (e :: es) [] pos) (tMakeD C n 0 sp E t tNil) :=
  ⟨fun pins s σ H Q I h => wpAny_Call_Name_kw (ld_glob I hg hm (PySem.W.callWith_K (h₀ := X.base) I.ok.mod.kin M.kp (thn (ha.run pos pins s σ H _ I h) fun us s1 ⟨vs, H1, I1, r, l1, l2, q⟩ => ⟨I1.kIn, run_makeD (ws := []) (zs := []) M F hr hb (hx σ) I1 r .nil l1 rfl q⟩) he hpl) hdb)⟩
end
section
variable {xp : Option XP} {X : Cx} {e o : Expr} {es : List Expr} {c m x : Str} {k j n : Nat} {F : MF} {ms : MA} {ma : ME} {p pos kpos : Pos}
def mkM (c : Str) (F : MF) (ms : MA) : ME := fun env h => (ms env h).bind fun ds h => (F (.ref h.length :: ds) (h ++ [.ins c []])).bind fun v h2 => match v with
  | .non => .ok (.ref h.length) h2
  | _ => .stuck
theorem allocO {K : PySem.W.Frag} {ρ : Rho} {ih : IH} {H : Hp} (r : RelH K ρ ih H) {x dx : Addr} {c : Str} (hp : H x = none) (hd : H dx = none) (ne : dx ≠ x) :
    ∃ ρ', Ext ρ H ρ' (upd (upd H dx (.own x)) x (.ins (He.ga K c) dx [])) ∧ RelH K ρ' (ih ++ [.ins c []]) (upd (upd H dx (.own x)) x (.ins (He.ga K c) dx [])) ∧ RepV K ρ' (upd (upd H dx (.own x)) x (.ins (He.ga K c) dx [])) (.ref ih.length) (.ref x) ∧ ρ'.as = ρ.as ++ [x] := by
  have ag : ∀ b o, H b = some o → upd (upd H dx (.own x)) x (.ins (He.ga K c) dx []) b = some o := fun b o e => by rw [upd_ne (ne_of_none e hp), upd_ne (ne_of_none e hd)]; exact e
  have xt : Ext ρ H ⟨ρ.as ++ [x]⟩ (upd (upd H dx (.own x)) x (.ins (He.ga K c) dx [])) :=
    ⟨List.prefix_append _ _, fun a z => by
      rcases List.mem_append.mp z with z | z
      · exact .inl z
      · rw [List.mem_singleton.mp z]; exact .inr hp, fun a o e _ => ag a o e, fun a o e => ag a _ e, fun a o u e => ag a _ e, fun a o e => ag a _ e⟩
  have np : x ∉ ρ.as := fun z => by
    obtain ⟨o, e⟩ := r.ne_none z
    rw [hp] at e; cases e
  refine ⟨⟨ρ.as ++ [x]⟩, xt, ⟨by simp [r.len], List.nodup_append.mpr ⟨r.nd, by simp, fun a ha b hb => by
    rw [List.mem_singleton.mp hb]; rintro rfl; exact np ha⟩, fun n a u e1 e2 => ?_⟩, .ref ?_, rfl⟩
  · by_cases hn : n < ih.length
    · have hn' : n < ρ.as.length := by rw [r.len]; exact hn
      rw [List.getElem?_append_left hn'] at e1
      rw [List.getElem?_append_left hn] at e2
      obtain ⟨z, hz⟩ := r.ne_none (List.mem_of_getElem? e1)
      exact (r.obj n a u e1 e2).ext xt (by rw [ag a z hz, hz])
    · have hl : n < (ih ++ [IO.ins c []]).length := (List.getElem?_eq_some_iff.mp e2).1
      have en : n = ih.length := by simp at hl; omega
      subst en
      have q1 : (ρ.as ++ [x])[ih.length]? = some x := by rw [← r.len]; simp
      have e1' : (ρ.as ++ [x])[ih.length]? = some a := e1
      rw [q1] at e1'; cases e1'
      have q2 : (ih ++ [IO.ins c []])[ih.length]? = some (.ins c []) := by simp
      rw [q2] at e2; cases e2
      exact ⟨dx, [], upd_same, .nil⟩
  · show (ρ.as ++ [x])[ih.length]? = some x
    rw [← r.len]; simp
/-- what __init__ does with a new instance, in the reading -/
theorem init_ok {K : PySem.W.Frag} {mg : Str → Option Value} {W : WX} {ρ : Rho} {σ : L2.St} {H : Hp} {Q : VK} {ds : List D} {ih : IH} {vs : List V} {n : Nat} (r : RelH K ρ ih H) (p1 : RepL K ρ H ds vs) (hl : ds.length + 1 = n)
    (post : PostE K mg W ρ σ H Q ((F (.ref ih.length :: ds) (ih ++ [.ins c []])).bind fun v h2 => match v with
      | .non => .ok (.ref ih.length) h2
      | _ => .stuck)) {x dx : Addr} (hp : H x = none) (hd : H dx = none) (ne : dx ≠ x) :
    spF K mg n F (.ref x :: vs) (upd (upd H dx (.own x)) x (.ins (He.ga K c) dx [])) (fun v H3 => v = .non ∧ Q (.ref x) H3) (WE W σ) := by
  obtain ⟨ρ', xt, r', rv, er⟩ := allocO (c := c) r hp hd ne
  refine ⟨by rw [List.length_cons, ← p1.length]; exact hl, ρ', .ref ih.length :: ds, ih ++ [.ins c []], r', .cons rv (p1.ext xt), ?_⟩
  have post : PostE K mg W ρ' σ _ Q _ := PostE.ext post xt
  revert post
  cases F (.ref ih.length :: ds) (ih ++ [.ins c []]) with
  | ok v h2 =>
    intro post ρ2 u H2 x2 r2 rv2
    cases v with
    | non =>
      cases rv2
      have hx : ρ'.as[ih.length]? = some x := by
        cases rv with
        | ref h => exact h
      exact ⟨rfl, post ρ2 (.ref x) H2 x2 r2 (.ref (x2.get hx))⟩
    | _ => exact post.elim
  | exc y h2 => exact fun post => post
  | stuck => exact fun post => post
theorem s_mk (f : FI X.prog X.w X.K X.mg X.base c k n [] F) (hr : Room j X.A) (hk : k + 1 ≤ j) (hg : Gl X c) (hl : (e :: es).length + 1 = n) (A : SA xp X (e :: es) ms) (hml : LenA (e :: es).length ms)
    (hdb : (c == ("__debug__" : Str)) = false := by decide) (he : starEach (e :: es) X.env = (false, eval e X.env) :: starEach es X.env := by rfl) (hpl : (backTo pos (starEach es X.env)).any (·.1) = false := by rfl) : SE xp X (.Call (.Name c p) (e :: es) [] pos) (mkM c F ms) := fun W tk => by
  obtain ⟨ta, pa, ha⟩ := A W tk
  obtain ⟨fa, fd, ps, hm, hM, hb, hF⟩ := f.ex
  subst hl
  refine ⟨_, pe_makeDp (n := (e :: es).length) hM hF (hr.mono hk) hg hm hb (fun σ => passAt tk σ) pa hdb he hpl, fun ρ env ih σ H Q rl post => ?_⟩
  have hml := hml env ih
  revert post
  show PostE X.K X.mg W ρ σ H Q ((ms env ih).bind _) → _
  cases q : ms env ih with
  | ok ds h1 =>
    intro post
    refine ha ρ env ih σ H _ rl ?_
    rw [q]
    intro ρ1 vs H1 e1 r1 p1
    have hd := hml ds h1 q
    refine ⟨by rw [← p1.length, hd], rfl, fun x dx hp hdx ne => ?_⟩
    have := init_ok (F := F) (c := c) r1 p1 (by rw [hd]) (PostE.ext post e1) hp hdx ne
    rw [List.append_nil]
    exact this
  | exc x h =>
    intro post
    refine ha ρ env ih σ H _ rl ?_
    rw [q]
    exact post
  | stuck => exact fun post => post.elim
theorem s_mk1 {nm : Str} (f : FI X.prog X.w X.K X.mg X.base c k 2 [nm] F) (hr : Room j X.A) (hk : k + 1 ≤ j) (hg : Gl X c) (A : SE xp X e ma)
    (hall : (backToKw pos (keywordEach [⟨some nm, e, kpos⟩] X.env)).all (·.1.isSome) = true := by rfl) (hks : (backToKw pos (keywordEach [⟨some nm, e, kpos⟩] X.env)).filterMap (·.1) = [nm] := by rfl) (hdb : (c == ("__debug__" : Str)) = false := by decide)
    (hpl : ((backTo pos (starEach [] X.env)).any (·.1) || (backToKw pos (keywordEach [⟨some nm, e, kpos⟩] X.env)).any (·.1.isNone)) = false := by rfl) : SE xp X (.Call (.Name c p) [] [⟨some nm, e, kpos⟩] pos) (mkM c F (aconsM ma anilM)) := fun W tk => by
  obtain ⟨ta, pa, ha⟩ := A W tk
  obtain ⟨fa, fd, ps, hm, hM, hb, hF⟩ := f.ex
  refine ⟨_, pe_makeDk hM hF (hr.mono hk) hg hm hb (fun σ => passAt tk σ) (pk_cons pa pk_nil) hall hks hdb hpl, fun ρ env ih σ H Q rl post => ?_⟩
  refine fstE (ta := ta) (S := _) (f := fun d h => (F [.ref h.length, d] (h ++ [.ins c []])).bind fun v h2 => match v with
    | .non => .ok (.ref h.length) h2
    | _ => .stuck) ha rl (lkE (Q := Q)) ?_ fun ρ1 d h1 v H1 e1 r1 p1 post => ?_
  · revert post
    show PostE X.K X.mg W ρ σ H Q (((ma env ih).bind _).bind _) → _
    cases ma env ih with
    | ok d h => exact fun post => post
    | exc x h => exact fun post => post
    | stuck => exact fun post => post
  · exact ⟨rfl, rfl, fun x dx hp hdx ne => init_ok (F := F) (c := c) (ds := [d]) (vs := [v]) r1 (.cons p1 .nil) rfl post hp hdx ne⟩
end
end Z
/-! Z17: comprehensions of two clauses. -/
namespace Z
open PySem PySem.Spec PyProof.Rows L2
/-- the item at a place: none: no walk; some none: the end -/
def itm : Src → IH → Nat → Option (Option D)
  | .snap ds, _, i => if i ≤ ds.length then some ds[i]? else none
  | .live v, h, i => (v h).map fun ds => ds[i]?
/-- an item more in the list n -/
def appL (n : Nat) (y : D) (h : IH) : Option IH := match h[n]? with
  | some (.lst acc) => if acc.length < sizeLine then some (h.set n (.lst (acc ++ [y]))) else none
  | _ => none
/-- all items, in a row -/
def lcJ (s : Src) (k : D → IH → Option IH) : Nat → Nat → IH → Option IH
  | 0, _, _ => none
  | m + 1, i, h => match itm s h i with
    | none => none
    | some none => some h
    | some (some d) => (k d h).bind (lcJ s k m (i + 1))
/-- one item -/
def onJ (g : MG) (mt : MT) (env : Ev) (k : Ev → IH → Option IH) (d : D) (h : IH) : Option IH := match g d env with
  | none => none
  | some e => match mt e h with
    | .ok b h => if b = true then k e h else some h
    | _ => none
def putJ (n : Nat) (me : ME) (e : Ev) (h : IH) : Option IH := match me e h with
  | .ok y h => appL n y h
  | _ => none
/-- the second clause -/
def in2J (mi1 : MI) (own1 : List Nat) (g1 : MG) (mt1 : MT) (me : ME) (n : Nat) (e : Ev) (h : IH) : Option IH := match mi1 e h with
  | .ok s1 h => lcJ s1 (onJ g1 mt1 (wipeE e own1) (putJ n me)) MOST 0 h
  | _ => none
def lc2M (mi : MI) (own : List Nat) (g : MG) (mt : MT) (mi1 : MI) (own1 : List Nat) (g1 : MG) (mt1 : MT) (me : ME) : ME := fun env h => (mi env h).bind fun s h =>
  match lcJ s (onJ g mt (wipeE env own) (in2J mi1 own1 g1 mt1 me h.length)) MOST 0 (h ++ [.lst []]) with
  | some h' => .ok (.ref h.length) h'
  | none => .stuck
theorem itm_go {K : PySem.W.Frag} {J : It} {ρ0 ρ : Rho} {H0 H : Hp} {s : Src} {ih : IH} {i : Nat} {d : D} (it : ItOk K J ρ0 H0 s) (x : Ext ρ0 H0 ρ H) (r : RelH K ρ ih H) (e : itm s ih i = some (some d)) :
    J.go i H ∧ ∀ x H', J.yld i H x H' → Ext ρ H ρ H' ∧ RelH K ρ ih H' ∧ RepV K ρ H' d x := by
  cases s with
  | snap ds =>
    have e : (if i ≤ ds.length then some ds[i]? else none) = some (some d) := e
    split at e
    · exact (show ItS K J ρ0 H0 ds from it).go i d ρ H ih x r (Option.some.inj e)
    · cases e
  | live v =>
    obtain ⟨ds, e1, e2⟩ := Option.map_eq_some_iff.mp (show (v ih).map (fun ds => ds[i]?) = some (some d) from e)
    exact (show ItV K J ρ0 H0 v from it).go i d ρ H ih ds x r e1 e2
theorem itm_stop {K : PySem.W.Frag} {J : It} {ρ0 ρ : Rho} {H0 H : Hp} {s : Src} {ih : IH} {i : Nat} (it : ItOk K J ρ0 H0 s) (x : Ext ρ0 H0 ρ H) (r : RelH K ρ ih H) (e : itm s ih i = some none) : J.stop i H := by
  cases s with
  | snap ds =>
    have e : (if i ≤ ds.length then some ds[i]? else none) = some none := e
    split at e
    · rename_i c
      have := List.getElem?_eq_none_iff.mp (Option.some.inj e)
      have ei : i = ds.length := by omega
      rw [ei]
      exact (show ItS K J ρ0 H0 ds from it).stop ρ H x
    · cases e
  | live v =>
    obtain ⟨ds, e1, e2⟩ := Option.map_eq_some_iff.mp (show (v ih).map (fun ds => ds[i]?) = some none from e)
    exact (show ItV K J ρ0 H0 v from it).stop i ρ H ih ds x r e1 e2
section
variable {xp : Option XP} {X : Cx} {scope : Scope} {vs vs1 : List Nat} {pos : Pos}
/-- what is wanted of the heap at the end -/
def Fin2 (K : PySem.W.Frag) (ρ : Rho) (H : Hp) (Q : VK) (n : Nat) (r : Option IH) : Prop := match r with
  | some h => ∀ ρ' v H', Ext ρ H ρ' H' → RelH K ρ' h H' → RepV K ρ' H' (.ref n) v → Q v H'
  | none => False
theorem Fin2.some {K : PySem.W.Frag} {ρ : Rho} {H : Hp} {Q : VK} {n : Nat} : ∀ {r : Option IH} {f : IH → Option IH}, Fin2 K ρ H Q n (r.bind f) → ∃ h, r = some h ∧ Fin2 K ρ H Q n (f h)
  | .some h, _, p => ⟨h, rfl, p⟩
  | .none, _, p => p.elim
def canI (K : PySem.W.Frag) (mg : Str → Option Value) (xp : Option XP) (m : MI) : TI := fun σ H R => ∃ ρ env ih, Rel K xp ρ env ih σ H ∧ PostI K mg (fun _ _ _ _ => False) ρ σ H R (m env ih)
theorem SI.can {Y : Cx} {tg e : Expr} {m : MI} (S : SI xp Y tg e m) : PI Y tg e (canI Y.K Y.mg xp m) := by
  obtain ⟨t, pt, ht⟩ := S (fun _ _ _ _ => False) takes0
  exact ⟨fun pins s σ H R I ⟨ρ, env, ih, rl, post⟩ => pt.run pins s σ H R I (ht ρ env ih σ H R rl post)⟩
/-- the state of the walk -/
def At2 (K : PySem.W.Frag) (ρ0 : Rho) (H0 : Hp) (ρ1 : Rho) (H1 : Hp) (Q : VK) (n : Nat) (k : IH → Option IH) (H : Hp) : Prop := ∃ ρ ih, Ext ρ1 H1 ρ H ∧ RelH K ρ ih H ∧ Fin2 K ρ0 H0 Q n (k ih)
theorem lc2_red {W : WX} {wi : TI} {tG tG1 : TG} {tT tT1 : TT} {mi mi1 : MI} {g g1 : MG} {mt mt1 : MT} {me : ME} {ρ : Rho} {env : Ev} {ih : IH} {σ : L2.St} {H : Hp} {Q : VK}
    (hi : ∀ ρ env ih σ H Q, Rel X.K xp ρ env ih σ H → PostI X.K X.mg W ρ σ H Q (mi env ih) → wi σ H Q)
    (hG : ∀ ρ env ih σ H Q d v env', Rel X.K xp ρ env ih σ H → RepV X.K ρ H d v → g d env = some env' → (∀ σ', Rel X.K xp ρ env' ih σ' H → L2.wipe σ' vs = L2.wipe σ vs → Q σ' H) → tG v σ H Q)
    (hT : ∀ ρ env ih σ H Q, Rel X.K xp ρ env ih σ H → PostT X.K X.mg (fun _ _ _ _ => False) ρ σ H Q (mt env ih) → tT σ H Q)
    (hG1 : ∀ ρ env ih σ H Q d v env', Rel X.K xp ρ env ih σ H → RepV X.K ρ H d v → g1 d env = some env' → (∀ σ', Rel X.K xp ρ env' ih σ' H → L2.wipe σ' vs1 = L2.wipe σ vs1 → Q σ' H) → tG1 v σ H Q)
    (hT1 : ∀ ρ env ih σ H Q, Rel X.K xp ρ env ih σ H → PostT X.K X.mg (fun _ _ _ _ => False) ρ σ H Q (mt1 env ih) → tT1 σ H Q)
    (rl : Rel X.K xp ρ env ih σ H) (post : PostE X.K X.mg W ρ σ H Q (lc2M mi vs g mt mi1 vs1 g1 mt1 me env ih)) : tLc2 wi tG tT (canI X.K X.mg xp mi1) tG1 tT1 (canE X.K X.mg xp me) vs vs1 σ H Q := by
  refine hi ρ env ih σ H _ rl ?_
  unfold lc2M at post
  revert post
  cases mi env ih with
  | exc x h => exact fun post => post
  | stuck => exact fun post => post
  | ok s h1 =>
    intro post ρ1 J H1 x1 r1 it D' hD'
    have post : PostE X.K X.mg W ρ σ H Q (match lcJ s (onJ g mt (wipeE env vs) (in2J mi1 vs1 g1 mt1 me h1.length)) MOST 0 (h1 ++ [.lst []]) with
      | some h' => .ok (.ref h1.length) h'
      | none => .stuck) := post
    generalize hk : onJ g mt (wipeE env vs) (in2J mi1 vs1 g1 mt1 me h1.length) = k at post
    generalize hn : h1.length = n at post hk
    have post : Fin2 X.K ρ H Q n (lcJ s k MOST 0 (h1 ++ [.lst []])) := by
      revert post
      cases lcJ s k MOST 0 (h1 ++ [.lst []]) with
      | none => exact fun p => p
      | some h => exact fun p ρ' v H' y rl rv => p ρ' v H' y rl rv
    obtain ⟨ρ2, x2, r2, rv2⟩ := alloc r1 hD' (.nil : RepL X.K ρ1 H1 [] [])
    rw [hn] at rv2
    have hidx : ρ2.as[n]? = some D' := by
      cases rv2 with
      | ref h => exact h
    have rw2 : Rel X.K xp ρ2 (wipeE env vs) (h1 ++ [.lst []]) (L2.wipe σ vs) (upd H1 D' (.lst [])) := ((rl.wipe vs).next x1 r1).next x2 r2
    refine ⟨fun i m H' => At2 X.K ρ H ρ2 (upd H1 D' (.lst [])) Q n (fun ih => lcJ s k m i ih) H', ⟨MOST, ρ2, _, .refl, r2, post⟩, ?_⟩
    rintro i m H3 ⟨ρ3, ih3, x3, r3, post3⟩
    cases m with
    | zero => exact post3.elim
    | succ m =>
      have post3 : Fin2 X.K ρ H Q n (match itm s ih3 i with
        | none => none
        | some none => some ih3
        | some (some d) => (k d ih3).bind (lcJ s k m (i + 1))) := post3
      cases hd : itm s ih3 i with
      | none => rw [hd] at post3; exact post3.elim
      | some od =>
        rw [hd] at post3
        cases od with
        | none => exact .inl ⟨itm_stop it (x2.trans x3) r3 hd, post3 ρ3 _ H3 ((x1.trans x2).trans x3) r3 (.ref (x3.get hidx))⟩
        | some d =>
          obtain ⟨go, yl⟩ := itm_go it (x2.trans x3) r3 hd
          refine .inr ⟨go, At2 X.K ρ H ρ2 (upd H1 D' (.lst [])) Q n (fun ih => lcJ s k m (i + 1) ih), fun H' h => ⟨m, Nat.lt_succ_self _, h⟩, fun x H4 y => ?_⟩
          obtain ⟨x4, r4, rv4⟩ := yl x H4 y
          obtain ⟨h5, ek, post4⟩ := post3.some
          rw [← hk] at ek
          unfold onJ at ek
          have rl4 := rw2.next (x3.trans x4) r4
          split at ek
          · cases ek
          · rename_i e eg
            refine hG ρ3 _ ih3 _ H4 _ d x e rl4 rv4 eg fun σ1 q1 w1 => ⟨w1.trans wipe_idem, hT ρ3 e ih3 σ1 H4 _ q1 ?_⟩
            revert ek
            cases mt e ih3 with
            | exc x h => exact fun ek => nomatch ek
            | stuck => exact fun ek => nomatch ek
            | ok b h6 =>
              intro ek ρ6 H6 x6 r6
              have x26 := (x3.trans x4).trans x6
              have rl6 := q1.next x6 r6
              cases b with
              | false =>
                have ek : some h6 = some h5 := ek
                cases ek
                exact ⟨ρ6, _, x26, r6, post4⟩
              | true =>
                have ek : in2J mi1 vs1 g1 mt1 me n e h6 = some h5 := ek
                refine ⟨ρ6, e, h6, rl6, ?_⟩
                unfold in2J at ek
                revert ek
                cases mi1 e h6 with
                | exc x h => exact fun ek => nomatch ek
                | stuck => exact fun ek => nomatch ek
                | ok s1 h7 =>
                  intro ek ρ7 J1 H7 x7 r7 it1
                  have ek : lcJ s1 (onJ g1 mt1 (wipeE e vs1) (putJ n me)) MOST 0 h7 = some h5 := ek
                  have rl7 : Rel X.K xp ρ7 (wipeE e vs1) h7 (L2.wipe σ1 vs1) H7 := (rl6.wipe vs1).next x7 r7
                  generalize hk1 : onJ g1 mt1 (wipeE e vs1) (putJ n me) = k1 at ek
                  refine ⟨fun j p H' => ∃ ρ' ih', Ext ρ7 H7 ρ' H' ∧ RelH X.K ρ' ih' H' ∧ lcJ s1 k1 p j ih' = some h5, ⟨MOST, ρ7, h7, .refl, r7, ek⟩, ?_⟩
                  rintro j p H8 ⟨ρ8, ih8, x8, r8, e8⟩
                  cases p with
                  | zero => cases e8
                  | succ p =>
                    have e8 : (match itm s1 ih8 j with
                      | none => none
                      | some none => some ih8
                      | some (some d) => (k1 d ih8).bind (lcJ s1 k1 p (j + 1))) = some h5 := e8
                    cases hd1 : itm s1 ih8 j with
                    | none => rw [hd1] at e8; cases e8
                    | some od1 =>
                      rw [hd1] at e8
                      cases od1 with
                      | none =>
                        have e8 : some ih8 = some h5 := e8
                        have e8' := Option.some.inj e8
                        rw [← e8'] at post4
                        exact .inl ⟨itm_stop it1 x8 r8 hd1, ρ8, ih8, (x26.trans x7).trans x8, r8, post4⟩
                      | some d1 =>
                        obtain ⟨go1, yl1⟩ := itm_go it1 x8 r8 hd1
                        refine .inr ⟨go1, fun H' => ∃ ρ' ih', Ext ρ7 H7 ρ' H' ∧ RelH X.K ρ' ih' H' ∧ lcJ s1 k1 p (j + 1) ih' = some h5, fun H' h => ⟨p, Nat.lt_succ_self _, h⟩, fun x' H9 y' => ?_⟩
                        obtain ⟨x9, r9, rv9⟩ := yl1 x' H9 y'
                        obtain ⟨h9, ek1, e9⟩ := Option.bind_eq_some_iff.mp (show (k1 d1 ih8).bind (lcJ s1 k1 p (j + 1)) = some h5 from e8)
                        rw [← hk1] at ek1
                        unfold onJ at ek1
                        have rl9 := rl7.next (x8.trans x9) r9
                        split at ek1
                        · cases ek1
                        · rename_i e1 eg1
                          refine hG1 ρ8 _ ih8 _ H9 _ d1 x' e1 rl9 rv9 eg1 fun σ2 q2 w2 => ⟨w2.trans wipe_idem, hT1 ρ8 e1 ih8 σ2 H9 _ q2 ?_⟩
                          revert ek1
                          cases mt1 e1 ih8 with
                          | exc x h => exact fun ek => nomatch ek
                          | stuck => exact fun ek => nomatch ek
                          | ok b1 h10 =>
                            intro ek1 ρ10 H10 x10 r10
                            have x710 := (x8.trans x9).trans x10
                            cases b1 with
                            | false =>
                              have ek1 : some h10 = some h9 := ek1
                              cases ek1
                              exact ⟨ρ10, _, x710, r10, e9⟩
                            | true =>
                              have ek1 : putJ n me e1 h10 = some h9 := ek1
                              refine ⟨ρ10, e1, h10, q2.next x10 r10, ?_⟩
                              unfold putJ at ek1
                              revert ek1
                              cases me e1 h10 with
                              | exc x h => exact fun ek => nomatch ek
                              | stuck => exact fun ek => nomatch ek
                              | ok y h11 =>
                                intro ek1 ρ11 u H11 x11 r11 ru
                                have ek1 : appL n y h11 = some h9 := ek1
                                unfold appL at ek1
                                split at ek1
                                · rename_i acc ha
                                  split at ek1
                                  · rename_i hlen
                                    cases ek1
                                    have hi11 : ρ11.as[n]? = some D' := (((x26.trans x7).trans x710).trans x11).get hidx
                                    obtain ⟨av, hv, ra⟩ := r11.lst hi11 ha
                                    obtain ⟨x12, r12⟩ := rewrite r11 hi11 hv (ra.append (.cons ru .nil))
                                    exact ⟨av, hv, by rw [← ra.length]; exact hlen, ρ11, _, (x710.trans x11).trans x12, r12, e9⟩
                                  · cases ek1
                                · cases ek1
theorem s_lc2 {elt tg iter tg1 iter1 : Expr} {ifs ifs1 : List Expr} {mi mi1 : MI} {g g1 : MG} {mt mt1 : MT} {me : ME} {own : List (Str × Nat)} (ho : own.map (·.2) = vs) (hv : ∀ i ∈ vs1, i ∈ vs) (hc : X.calm = true) (hN : X.N.Nodup) (I : SI xp X tg iter mi) (ok : BlkOk X.N X.env.scope scope own)
    (G : SGF xp X.K (Blk X scope) vs tg g) (C : STF xp X.K X.mg (Blk X scope) ifs mt) (I1 : ∀ s H C cl fp, SI xp (Blk X scope s H C cl fp) tg1 iter1 mi1) (G1 : SGF xp X.K (Blk X scope) vs1 tg1 g1) (C1 : STF xp X.K X.mg (Blk X scope) ifs1 mt1) (E : ∀ s H C cl fp, SE xp (Blk X scope s H C cl fp) elt me)
    (hs : ∀ x, foldedSetIterable iter X.env x = pure x := by intro _; rfl) (hs1 : ∀ env x, foldedSetIterable iter1 env x = pure x := by intro _ _; rfl) :
    SE xp X (.ListComp elt [⟨tg, iter, ifs, 0⟩, ⟨tg1, iter1, ifs1, 0⟩] scope pos) (lc2M mi vs g mt mi1 vs1 g1 mt1 me) := fun W tk => by
  subst ho
  obtain ⟨wi, pi, hi⟩ := I W tk
  obtain ⟨tG, pG, hG⟩ := G
  obtain ⟨tT, pT, hT⟩ := C
  obtain ⟨tG1, pG1, hG1⟩ := G1
  obtain ⟨tT1, pT1, hT1⟩ := C1
  exact ⟨_, pe_lc2 hc hN pi ok hv pG pT (fun s H C cl fp => (I1 s H C cl fp).can) pG1 pT1 (fun s H C cl fp => (E s H C cl fp).can) hs hs1, fun ρ env ih σ H Q rl post => lc2_red hi hG hT hG1 hT1 rl post⟩
end
end Z
/-! Z18: isinstance of own classes; dicts of the top; sorted. -/
namespace Z
open PySem PySem.Spec PyProof.Rows L2
section
variable {xp : Option XP} {X : Cx} {a b e : Expr} {ma mb mo : ME} {ms : MA} {p pos : Pos}
/-! ### isinstance(e, C), C an own class -/
def tyV (h : IH) (d : D) : Option (String ⊕ Str) := match tyN h d with
  | some s => some (.inl s)
  | none => (insAt h d).map fun q => .inr q.2.1
def KitF (K : PySem.W.Frag) (kt : Str → String ⊕ Str → Option Bool) : Prop := (∀ T s b, kt T (.inl s) = some b → PySem.W.kitOne K (.type s) (.ref (He.ga K T)) = some b) ∧
  ∀ T c b, kt T (.inr c) = some b → IclF K (He.ga K c) ∧ PySem.W.kitOne K (.ref (He.ga K c)) (.ref (He.ga K T)) = some b
def isoM (kt : Str → String ⊕ Str → Option Bool) (T : Str) (ma : ME) : ME := fun env h => (ma env h).bind fun d h => match (tyV h d).bind (kt T) with
  | some b => .ok (.bl b) h
  | none => .stuck
theorem s_iso {kt : Str → String ⊕ Str → Option Bool} (F : KitF X.K kt) {y : Str} {p2 : Pos} (hg : Gl X "isinstance") (hm : X.mg "isinstance" = none) (hg2 : Gl X y) (hm2 : X.mg y = some (.ref (He.ga X.K y))) (A : SE xp X e ma)
    (hv : bootBuiltins "isinstance" = some (.builtin "isinstance") := by decide +kernel) (hdb2 : (y == ("__debug__" : Str)) = false := by decide)
    (hs1 : starEach [e, .Name y p2] X.env = (false, eval e X.env) :: starEach [.Name y p2] X.env := by rfl) (hs2 : starEach [.Name y p2] X.env = (false, eval (.Name y p2) X.env) :: starEach [] X.env := by rfl)
    (hpl : (backTo pos (starEach [.Name y p2] X.env)).any (·.1) = false := by rfl) : SE xp X (.Call (.Name "isinstance" p) [e, .Name y p2] [] pos) (isoM kt y ma) := fun W tk => by
  obtain ⟨ta, pa, ha⟩ := A W tk
  refine ⟨_, pe_callB call_isi hg hm hv (pa_cons pa (pa_cons (pe_glob (v := .ref (He.ga X.K y)) hg2 hm2 rfl hdb2) pa_nil hs2) hs1) (by decide) (by decide) hs1 hpl, fun ρ env ih σ H Q rl post => ?_⟩
  refine fstE (ta := ta) ha rl (lkE (Q := Q)) post fun ρ1 d h1 v H1 e1 r1 p1 post => ?_
  split at post
  · rename_i b q
    obtain ⟨n, q1, q2⟩ := Option.bind_eq_some_iff.mp q
    unfold tyV at q1
    split at q1
    · rename_i s hs
      cases q1
      exact ⟨v, .ref (He.ga X.K y), .type s, .ref (He.ga X.K y), b, rfl, .own _, tyN_ok r1 hs p1, F.1 y s b q2, post ρ1 _ H1 .refl r1 (.bl _)⟩
    · obtain ⟨⟨n', c, fs⟩, q3, q4⟩ := Option.map_eq_some_iff.mp q1
      cases q4
      obtain ⟨aa, dx, vs, rfl, _, h2, _⟩ := insAt_ok r1 q3 p1
      obtain ⟨f1, f2⟩ := F.2 y c b q2
      exact ⟨_, .ref (He.ga X.K y), .ref (He.ga X.K c), .ref (He.ga X.K y), b, rfl, .own _, .base (.ins h2 f1.cl f1.ha f1.hn f1.ht f1.hm), f2, post ρ1 _ H1 .refl r1 (.bl _)⟩
  · exact post.elim
/-! ### sorted -/
def pairD (p : Int × Int) : D := .tup [.int p.1, .int p.2]
def prs : List D → Option (List (Int × Int))
  | [] => some []
  | d :: ds => match d, prs ds with
    | .tup [.int i, .int j], some ps => some ((i, j) :: ps)
    | _, _ => none
def sortI (l : List Int) : List Int := l.mergeSort fun i j => decide (i ≤ j)
def leP (p q : Int × Int) : Bool := !SrtO.lexB q p
def sortP (l : List (Int × Int)) : List (Int × Int) := l.mergeSort leP
theorem leP_iff {p q : Int × Int} : leP p q = true ↔ p.1 < q.1 ∨ (p.1 = q.1 ∧ p.2 ≤ q.2) := by
  unfold leP
  rw [Bool.not_eq_true', SrtO.lexB_no]
  omega
theorem leP_anti {p q : Int × Int} (h1 : leP p q = true) (h2 : leP q p = true) : p = q := by
  rw [leP_iff] at h1 h2
  obtain ⟨a, b⟩ := p
  obtain ⟨c, d⟩ := q
  simp only at h1 h2
  have : a = c ∧ b = d := by omega
  rw [this.1, this.2]
theorem sortI_of {l m : List Int} (h : m.Perm l) (s : m.Pairwise (· ≤ ·)) : m = sortI l := by
  refine List.Perm.eq_of_pairwise (le := fun i j => decide (i ≤ j)) (fun a b _ _ h1 h2 => ?_) (s.imp fun h => decide_eq_true h) ?_ (h.trans (List.mergeSort_perm l _).symm)
  · exact Int.le_antisymm (of_decide_eq_true h1) (of_decide_eq_true h2)
  · exact List.pairwise_mergeSort (le := fun i j => decide (i ≤ j)) (fun a b c h1 h2 => decide_eq_true (Int.le_trans (of_decide_eq_true h1) (of_decide_eq_true h2))) (fun a b => by
      rcases Int.le_total a b with q | q
      · rw [decide_eq_true q]; rfl
      · rw [decide_eq_true q]; simp) l
theorem sortP_of {l m : List (Int × Int)} (h : m.Perm l) (s : m.Pairwise (fun p q => leP p q = true)) : m = sortP l := by
  refine List.Perm.eq_of_pairwise (le := fun p q => leP p q) (fun a b _ _ h1 h2 => leP_anti h1 h2) s ?_ (h.trans (List.mergeSort_perm l _).symm)
  exact List.pairwise_mergeSort (le := leP) (fun a b c h1 h2 => by rw [leP_iff] at h1 h2 ⊢; omega) (fun a b => by
    rw [Bool.or_eq_true, leP_iff, leP_iff]; omega) l
def sortedF : MF := fun ds h => match ds with
  | [d] => match lisOf h d with
    | some xs => match its' xs with
      | some ns => newL h ((sortI ns).map .int)
      | none => match prs xs with
        | some ps => newL h ((sortP ps).map pairD)
        | none => .stuck
    | none => .stuck
  | _ => .stuck
def keyV (f : V → Option (Int × Int)) (v : V) : Int × Int := (f v).getD (0, 0)
theorem prs_ok {K : PySem.W.Frag} {ρ : Rho} {H : Hp} : ∀ {ds : List D} {vs : List V} {ps : List (Int × Int)}, prs ds = some ps → RepL K ρ H ds vs → ds = ps.map pairD
  | [], _, _, e, .nil => by cases e; rfl
  | d :: ds, _, _, e, .cons r t => by
    unfold prs at e
    split at e
    · rename_i i j ps h1
      cases e
      rw [prs_ok h1 t]; rfl
    · cases e
def rSortPT (K : PySem.W.Frag) : List V → Hp → VK → Prop := fun vs H Q => ∃ (a : Addr) (xs : List V) (k : V → Int × Int), vs = [V.ref a] ∧ SqL K H a xs ∧ (∀ x ∈ xs, ∃ t, x = V.ref t ∧ SqT K H t [.int (k x).1, .int (k x).2]) ∧
  ∀ ys p, SrtO.Srtd (ltP k) ys → SrtO.Stb (ltP k) ys xs → H p = none → Q (.ref p) (upd H p (.lst ys))
theorem cr_sortPT : CallR X (.builtin "sorted") (rSortPT X.K) := by
  intro pins s σ H vs us Q I r h
  obtain ⟨a, xs, k, rfl, hs, hx, q⟩ := h
  obtain ⟨its, rv, hl, hz⟩ := I.list hs
  obtain ⟨u, rfl, ru⟩ := vals1 r; obtain rfl : u = Value.ref a := ru
  obtain ⟨e1, e2⟩ := refs_back rv fun x m => let ⟨t, e, _⟩ := hx x m; ⟨t, e⟩
  refine SrtO.sorted_pairsO (k := fun u => k (backV u)) hl.isList (by rw [← rv.length]; exact hz) (fun v hv => ?_) fun h' d out h1 h2 kp hd hn => ?_
  · obtain ⟨t, rfl⟩ := e2 v hv; have hm : V.ref t ∈ xs := by rw [e1]; exact List.mem_map.mpr ⟨_, hv, rfl⟩
    obtain ⟨t', e, ht⟩ := hx _ hm; cases e; obtain ⟨its2, r2, ⟨o, ho, hc, n, hd⟩, _⟩ := I.tuple ht
    obtain ⟨u1, u2, rfl, ri, rj⟩ := vals2 r2; obtain ⟨t1, rfl⟩ := ri; obtain ⟨t2, rfl⟩ := rj
    exact ⟨t, o, t1, t2, n, rfl, ho, hc, hd⟩
  · have h3 : ∀ u ∈ out, ∃ a, u = Value.ref a := fun u hu => e2 u (h2.perm.mem_iff.mp hu); obtain ⟨n, hn⟩ := hn
    have hb : SrtO.Stb (ltP k) (out.map backV) xs := by rw [e1]; exact SrtO.Stb.map (ltP_swo k) backV h2
    exact ⟨.ref d, upd H d (.lst (out.map backV)), I.laid (t' := s.toks) kp hd ⟨by rw [hb.len]; exact hz, out, n, vals_back h3, hn⟩, rfl, q _ d (SrtO.srtd_map h1) hb (I.hok.fresh hd)⟩
theorem CallR.or {f : Value} {r r' : List V → Hp → VK → Prop} (h : CallR X f r) (g : CallR X f r') : CallR X f (fun vs H Q => r vs H Q ∨ r' vs H Q) := fun pins s σ H vs us Q I rv q => q.elim (h pins s σ H vs us Q I rv) (g pins s σ H vs us Q I rv)
open Classical in
/-- the two ints of a pair that stands in the heap -/
noncomputable def keyAt (K : PySem.W.Frag) (H : Hp) (v : V) : Int × Int := if h : ∃ q : Int × Int, ∃ t, v = V.ref t ∧ SqT K H t [.int q.1, .int q.2] then h.choose else (0, 0)
theorem RepL.ints {K : PySem.W.Frag} {ρ : Rho} {H : Hp} : ∀ ns : List Int, RepL K ρ H (ns.map D.int) (ns.map V.int)
  | [] => .nil
  | i :: ns => .cons (.int i) (RepL.ints ns)
theorem RepL.mem {K : PySem.W.Frag} {ρ : Rho} {H : Hp} : ∀ {ds : List D} {vs : List V}, RepL K ρ H ds vs → ∀ v ∈ vs, ∃ d ∈ ds, RepV K ρ H d v
  | _, _, .nil, v, h => by cases h
  | _, _, .cons r t, v, h => by
    rcases List.mem_cons.mp h with rfl | h
    · exact ⟨_, List.mem_cons_self, r⟩
    · obtain ⟨d, h1, h2⟩ := RepL.mem t v h
      exact ⟨d, List.mem_cons_of_mem _ h1, h2⟩
theorem its_map {K : PySem.W.Frag} {ρ : Rho} {H : Hp} {ds : List D} {vs : List V} {ns : List Int} (e : its' ds = some ns) (r : RepL K ρ H ds vs) : vs = ns.map V.int := its_ok e r
theorem pairs_rep {K : PySem.W.Frag} {ρ : Rho} {H : Hp} {k : V → Int × Int} : ∀ {ys : List V}, (∀ y ∈ ys, ∃ t, y = V.ref t ∧ SqT K H t [.int (k y).1, .int (k y).2]) → RepL K ρ H ((ys.map k).map pairD) ys
  | [], _ => .nil
  | y :: ys, h => by
    obtain ⟨t, e, q⟩ := h y List.mem_cons_self
    refine .cons ?_ (pairs_rep fun z hz => h z (List.mem_cons_of_mem _ hz))
    rw [e] at q ⊢
    exact .tup q (.cons (.int _) (.cons (.int _) .nil))
theorem keyAt_ok {K : PySem.W.Frag} {H : Hp} {v : V} (h : ∃ q : Int × Int, ∃ t, v = V.ref t ∧ SqT K H t [.int q.1, .int q.2]) : ∃ t, v = V.ref t ∧ SqT K H t [.int (keyAt K H v).1, .int (keyAt K H v).2] := by
  unfold keyAt
  rw [dif_pos h]
  exact h.choose_spec
theorem pair_rep {K : PySem.W.Frag} {ρ : Rho} {H : Hp} {q : Int × Int} {v : V} (r : RepV K ρ H (pairD q) v) : ∃ t, v = V.ref t ∧ SqT K H t [.int q.1, .int q.2] := by
  cases r with
  | tup h1 h2 =>
    cases h2 with
    | cons r1 t1 =>
      cases t1 with
      | cons r2 t2 =>
        cases t2
        cases r1
        cases r2
        exact ⟨_, rfl, h1⟩
def rSortPP (K : PySem.W.Frag) : List V → Hp → VK → Prop := fun vs H Q => ∃ (a : Addr) (xs : List V) (ps : List (Int × Int)) (ρ : Rho), vs = [V.ref a] ∧ SqL K H a xs ∧ RepL K ρ H (ps.map pairD) xs ∧
  ∀ ys p, RepL K ρ H ((sortP ps).map pairD) ys → H p = none → Q (.ref p) (upd H p (.lst ys))
theorem cr_sortPP : CallR X (.builtin "sorted") (rSortPP X.K) := by
  intro pins s σ H vs us Q I r h
  obtain ⟨a, xs, ps, ρ, rfl, hs, hp, q⟩ := h
  have inj : ∀ {ps : List (Int × Int)} {xs : List V}, RepL X.K ρ H (ps.map pairD) xs → (∀ x ∈ xs, ∃ t, x = V.ref t ∧ SqT X.K H t [.int (keyAt X.K H x).1, .int (keyAt X.K H x).2]) ∧ xs.map (keyAt X.K H) = ps := by
    intro ps
    induction ps with
    | nil => intro xs h; cases h; exact ⟨fun _ h => (by cases h), rfl⟩
    | cons p ps ihp =>
      intro xs h
      cases h with
      | @cons _ _ v vs r t =>
        obtain ⟨t0, e, hq⟩ := pair_rep r
        obtain ⟨g1, g2⟩ := ihp t
        obtain ⟨t1, e1, hq1⟩ := keyAt_ok ⟨p, t0, e, hq⟩
        refine ⟨fun x hx => ?_, ?_⟩
        · rcases List.mem_cons.mp hx with rfl | hx
          · exact ⟨t1, e1, hq1⟩
          · exact g1 x hx
        · rw [List.map_cons, g2]
          have et : t0 = t1 := by
            rw [e] at e1
            cases e1
            rfl
          subst et
          have z := I.tuple_inj hq1 hq
          have z1 : (keyAt X.K H v).1 = p.1 ∧ (keyAt X.K H v).2 = p.2 := by
            have := z
            simp only [List.cons.injEq, V.int.injEq, and_true] at this
            exact this
          have : keyAt X.K H v = p := Prod.ext z1.1 z1.2
          rw [this]
  obtain ⟨hk, key⟩ := inj hp
  refine cr_sortPT pins s σ H _ us Q I r ⟨a, xs, keyAt X.K H, rfl, hs, hk, fun ys p' h1 h2 hnew => q ys p' ?_ hnew⟩
  have r2 := pairs_rep (ρ := ρ) (fun y hy => hk y (h2.perm.mem_iff.mp hy))
  have hs2 : ys.map (keyAt X.K H) = sortP ps := by
    refine sortP_of (by rw [← key]; exact h2.perm.map _) ?_
    rw [List.pairwise_map]
    refine List.Pairwise.imp (fun {x y} h => ?_) h1
    unfold leP
    rw [Bool.not_eq_true']
    exact h
  rw [hs2] at r2
  exact r2
theorem c_sorted : SC X (.builtin "sorted") sortedF := ⟨_, CallR.or cr_sortedI cr_sortPP, fun W ρ ih H σ Q ds vs rl rv post => by
  unfold sortedF at post
  split at post
  · rename_i d
    cases rv with
    | cons q t =>
      cases t
      split at post
      · rename_i xs hx
        obtain ⟨a, us, rfl, hs, ru⟩ := lisOf_ok rl hx q
        split at post
        · rename_i ns hn
          have e := its_map hn ru
          subst e
          refine .inl ⟨a, ns, rfl, hs, fun ns' p' hp hso hnew => ?_⟩
          have := sortI_of hp hso
          subst this
          obtain ⟨ρ', x', rl', rv'⟩ := alloc rl hnew (RepL.ints (K := X.K) (ρ := ρ) (H := H) (sortI ns))
          exact post ρ' _ _ x' rl' rv'
        · split at post
          · rename_i ps hps
            have e := prs_ok hps ru
            subst e
            refine .inr ⟨a, us, ps, ρ, rfl, hs, ru, fun ys p' r2 hnew => ?_⟩
            obtain ⟨ρ', x', rl', rv'⟩ := alloc rl hnew r2
            exact post ρ' _ _ x' rl' rv'
          · exact post.elim
      · exact post.elim
  · exact post.elim⟩
/-! ### & -/
def bandM : MO := fun d e h => match d, e with
  | .int i, .int j => .ok (.int (Builtin.bitAnd i j)) h
  | _, _ => .stuck
theorem o_band : SO X (binaryOp .BitAnd) bandM := ⟨_, op_and, fun W ρ ih H σ Q d e x y rl hd he post => by
  unfold bandM at post
  split at post
  · cases hd
    cases he
    exact ⟨_, _, rfl, rfl, post ρ _ H .refl rl (.int _)⟩
  · exact post.elim⟩
/-! ### x.get(k, d), x a dict of the top -/
/-- the dict named x has these pairs -/
def DicT (K : PySem.W.Frag) (mg : Str → Option Value) (w : World) (x : Str) (kvs : List (Str × D)) : Prop :=
  mg x = some (.ref (He.ga K x)) ∧ (∃ es n, KDict K w (He.ga K x) es n ∧ es.toList.map He.keyOf = He.keysIn w.params (kvs.map Prod.fst)) ∧
    ∀ k d, (k, d) ∈ kvs → ∃ u v, PySem.W.nsIn K (He.ga K x) k = some (some u) ∧ RelV v u ∧ ∀ ρ H, RepV K ρ H d v
theorem keyOf_none {w : World} {z : Str} : ∀ {es : List DictEntry} {ks : List Str}, es.map He.keyOf = He.keysIn w.params ks → z ∉ ks → es.find? (fun e => Value.isStrOf z e.key) = none
  | [], _, _, _ => rfl
  | e :: es, [], h, _ => by cases h
  | e :: es, k :: ks, h, hz => by
    have h1 : He.keyOf e :: es.map He.keyOf = some (k, PyData.keyHash w.params k) :: He.keysIn w.params ks := h
    injection h1 with h2 h3
    have ih := keyOf_none h3 (fun q => hz (List.mem_cons_of_mem _ q))
    unfold He.keyOf at h2
    split at h2
    · rename_i y t q
      have h4 := (Prod.mk.inj (Option.some.inj h2)).1
      rw [List.find?_cons, q]
      have : Value.isStrOf z (.str y t) = false := by
        show (y == z) = false
        rw [h4]
        exact beq_false_of_ne fun e => hz (by rw [← e]; exact List.mem_cons_self)
      rw [this]
      exact ih
    · cases h2
theorem lookup_mem' {z : Str} {d : D} : ∀ {kvs : List (Str × D)}, kvs.lookup z = some d → (z, d) ∈ kvs
  | [], h => by cases h
  | (k, e) :: kvs, h => by
    rw [List.lookup_cons] at h
    split at h
    · rename_i q
      cases h
      rw [eq_of_beq q]
      exact List.mem_cons_self
    · exact List.mem_cons_of_mem _ (lookup_mem' h)
theorem lookup_no {z : Str} : ∀ {kvs : List (Str × D)}, kvs.lookup z = none → z ∉ kvs.map Prod.fst
  | [], _ => by simp
  | (k, e) :: kvs, h => by
    rw [List.lookup_cons] at h
    split at h
    · cases h
    · rename_i q
      rw [List.map_cons, List.mem_cons]
      rintro (w | w)
      · rw [w] at q; simp at q
      · exact lookup_no h w
def wgetM (kvs : List (Str × D)) (mk md : ME) : ME := fun env h => (mk env h).bind fun k h => (md env h).bind fun d h => match k with
  | .str z => (match kvs.lookup z with
    | some u => .ok u h
    | none => .ok d h)
  | _ => .stuck
def tWget (K : PySem.W.Frag) (d : Addr) (es : Array DictEntry) (ty tx : TE) : TE := fun σ H Q => ty σ H fun y H2 => tx σ H2 fun z H3 => ∃ (k : Str) (v : V), y = .str k ∧ ((∃ u, findBy Value.isStrOf es k = some u ∧ RelV v u) ∨ (findBy Value.isStrOf es k = none ∧ v = z)) ∧ Q v H3
theorem pe_wget {x : Str} {k d : Expr} {apos cpos : Pos} {ty tx : TE} {es : Array DictEntry} {n : Nat} (hg : Gl X x) (hm : X.mg x = some (.ref (He.ga X.K x))) (D : KDict X.K X.w (He.ga X.K x) es n) (he : PE X k ty) (hf : PE X d tx)
    (m : M2 X (.Name x p) "get" apos k d cpos) (hdb : (x == ("__debug__" : Str)) = false := by decide) : PE X (.Call (.Attribute (.Name x p) "get" apos) [k, d] [] cpos) (tWget X.K (He.ga X.K x) es ty tx) := by
  refine ⟨fun pins s σ H Q I h => wpAny_Call_method m.base m.few m.line PySem.F.plainAttrs_dict PySem.F.slot_dict_get PySem.F.type_dict_get (thn ((pe_glob (v := .ref (He.ga X.K x)) hg hm rfl hdb).run pins s σ H (fun v H1 => v = .ref (He.ga X.K x) ∧ H1 = H) I ⟨rfl, rfl⟩) fun u s1 ⟨xv, H1, I1, rx, ex, eH⟩ => ?_)⟩
  subst ex eH
  obtain rfl : u = Value.ref (He.ga X.K x) := rx
  refine ⟨kd_type D I1, fun b q => ?_, ?_⟩
  · cases q; exact ⟨_, I1.kIn _ _ D.at_, rfl⟩
  rw [m.trees]
  refine Calls.callWith_builtin rfl (Calls.evalArgs_plain (Calls.spliced_cons (thn (he.run pins s1 σ H1 _ I1 h) fun iv s2 ⟨y, H2, I2, ry, q2⟩ => Calls.spliced_cons (thn (hf.run pins s2 σ H2 _ I2 q2) fun fv s3 ⟨z, H3, I3, rz, kk, v, ey, hv, q3⟩ => Calls.spliced_nil ?_))))
  subst ey
  obtain ⟨t, rfl⟩ := ry
  have hmap := PySem.W.mapOf_K (prog := X.prog) (w := X.w) I3.kIn D.at_ D.lit
  refine call_meetsIn PySem.F.slot_dict_get hmap.typeIs PySem.F.entry_dict_get (PySem.F.args_dict_get_3 _ _ _) (meets_dict_get_default (strKind X.prog X.w) (He.ga X.K x) (PySem.strKind_is X.prog X.w kk t) D.low fv) ⟨_, hmap, ?_⟩
  rcases hv with ⟨u, e1, e2⟩ | ⟨e1, e2⟩
  · rw [e1]; exact ⟨v, H3, I3.tok _, e2, q3⟩
  · rw [e1]; subst e2; exact ⟨v, H3, I3.tok _, rz, q3⟩
theorem s_wget {x : Str} {kvs : List (Str × D)} {k d : Expr} {mk md : ME} {apos cpos : Pos} (T : DicT X.K X.mg X.w x kvs) (hg : Gl X x) (A : SE xp X k mk) (B : SE xp X d md) (m : M2 X (.Name x p) "get" apos k d cpos) (hdb : (x == ("__debug__" : Str)) = false := by decide) :
    SE xp X (.Call (.Attribute (.Name x p) "get" apos) [k, d] [] cpos) (wgetM kvs mk md) := fun W tk => by
  obtain ⟨ta, pa, ha⟩ := A W tk
  obtain ⟨tb, pb, hb⟩ := B W tk
  obtain ⟨hm, ⟨es, n, D, hk⟩, hv⟩ := T
  refine ⟨_, pe_wget hg hm D pa pb m hdb, fun ρ env ih σ H Q rl post => ?_⟩
  refine fstE (ta := ta) ha rl (lkE (Q := Q)) post fun ρ1 y h1 v H1 e1 r1 p1 post => ?_
  have rl1 := rl.next e1 r1
  refine fstE (ta := tb) hb rl1 (lkE (Q := Q)) post fun ρ2 z h2 u H2 e2 r2 p2 post => ?_
  split at post
  · rename_i zz
    cases p1
    split at post
    · rename_i dd hl
      obtain ⟨u0, v0, f1, f2, f3⟩ := hv _ _ (lookup_mem' hl)
      exact ⟨_, v0, rfl, .inl ⟨u0, PySem.W.find_K D.at_ f1, f2⟩, post ρ2 v0 H2 .refl r2 (f3 ρ2 H2)⟩
    · rename_i hl
      refine ⟨_, u, rfl, .inr ⟨?_, rfl⟩, post ρ2 u H2 .refl r2 p2⟩
      obtain ⟨l⟩ := es
      unfold findBy
      rw [List.find?_toArray, keyOf_none hk (lookup_no hl)]
      rfl
  · exact post.elim
end
/-! ### what the table says -/
section
variable {t : Tab} {K : PySem.W.Frag} {mg : Str → Option Value} {w : World}
def Tab.ofok (t : Tab) (c f : Str) : Bool := (t.own.any fun x => match x with | .noat c' f' => decide (c' = c ∧ f' = f) | _ => false) && t.own.any fun x => match x with | .cls c' => decide (c' = c) | _ => false
theorem Tx.ofokE (T : Tx t K mg) : OwnF K t.ofok := fun c f h => by
  obtain ⟨h1, h2⟩ := He.ba h
  obtain ⟨x, m1, q1⟩ := List.any_eq_true.mp h1
  obtain ⟨y, m2, q2⟩ := List.any_eq_true.mp h2
  constructor
  · split at q2
    · have := of_decide_eq_true q2
      subst this
      exact He.cls_ok (T.fact m2)
    · cases q2
  · split at q1
    · obtain ⟨rfl, rfl⟩ := of_decide_eq_true q1
      exact He.noat_ok (T.fact m1)
    · cases q1
def Tab.kitB (t : Tab) (T : Str) : String ⊕ Str → Option Bool
  | .inl s => (t.kit.find? fun p => decide (p.1 = T ∧ p.2.1 = s)).map (·.2.2)
  | .inr c => if c ∈ t.icl then (t.kio.find? fun p => decide (p.1 = T ∧ p.2.1 = c)).map (·.2.2) else none
theorem Tx.kitE (X : Tx t K mg) : KitF K t.kitB := by
  refine ⟨fun T s b h => ?_, fun T c b h => ?_⟩
  · obtain ⟨p, h1, h2⟩ := Option.map_eq_some_iff.mp (show (t.kit.find? fun p => decide (p.1 = T ∧ p.2.1 = s)).map (·.2.2) = some b from h)
    have h3 := of_decide_eq_true (List.find?_some (p := fun p : Str × String × Bool => decide (p.1 = T ∧ p.2.1 = s)) h1)
    have := X.kitT (List.mem_of_find?_eq_some h1)
    obtain ⟨rfl, rfl⟩ := h3
    cases h2
    exact this
  · have h : (if c ∈ t.icl then (t.kio.find? fun p => decide (p.1 = T ∧ p.2.1 = c)).map (·.2.2) else none) = some b := h
    split at h
    · rename_i hc
      obtain ⟨p, h1, h2⟩ := Option.map_eq_some_iff.mp h
      have h3 := of_decide_eq_true (List.find?_some (p := fun p : Str × Str × Bool => decide (p.1 = T ∧ p.2.1 = c)) h1)
      have := X.kitO (List.mem_of_find?_eq_some h1)
      obtain ⟨rfl, rfl⟩ := h3
      cases h2
      exact ⟨X.iclF hc, this⟩
    · cases h
theorem Tx.dic (T : Tx t K mg) {fn : List He.DefD} (c : SaysZ t fn w K) (i : Nat) (x : Str) (kvs : List (Str × D)) (h : t.dts[i]? = some (x, kvs)) (hc : x ∈ t.cls) : DicT K mg w x kvs :=
  ⟨T.mc x hc, c.dict i h, fun k d hk => T.dtV (List.mem_of_getElem? h) hk⟩
/-- a method, by its body -/
theorem fm_of {P : Program} {base : Heap} {c m x qual : Str} {params : Arguments} {body : List Stmt} {scope : Scope} {fd : FuncData} {N ps : List Str} {k n : Nat} {b : MS} (F : FunD K x qual params body scope [] [] (He.ma K (He.ga K c) m) fd) (S : FnScope N ps scope) (hn : n = N.length)
    (T : Tx t K mg) (h1 : He.Fa.cls c ∈ t.own) (h2 : He.Fa.meth c m ∈ t.own) (hb : Binds K fd ps [])
    (B : ∀ (cdv : Value) (A : Around) (outer : List PySem.Env) (s : Shared) (H : Hp) (E : XK), Room k (A.deeper (envOfC qual scope s.heap.objs.size (He.ma K (He.ga K c) m) cdv)) → SSs none (cxOf (L2.CX P w) P w K mg base N qual scope (He.ma K (He.ga K c) m) cdv A outer s H E) body b) :
    FM P w K mg base c m (k + 1) ps.length (defM n b) := ⟨_, fd, ps, He.cls_ok (T.fact h1), He.meth_ok (T.fact h2), hb, fn_sim F S hn B⟩
/-- an __init__ -/
theorem fi_of {P : Program} {base : Heap} {c x qual : Str} {params : Arguments} {body : List Stmt} {scope : Scope} {fd : FuncData} {N ps ks : List Str} {k n j : Nat} {b : MS} (F : FunD K x qual params body scope [] [] (He.ma K (He.ga K c) "__init__") fd) (S : FnScope N ps scope) (hn : n = N.length)
    (T : Tx t K mg) (h0 : c ∈ t.cls) (h2 : He.Fa.mkr c ∈ t.own) (hj : ps.length - ks.length = j)
    (hbk : ∀ (kV doc pm : Value) (an : Option Addr) (cdv ct : Value) (us ws : List Value), us.length = j → ws.length = ks.length → bindArgs (PySem.W.fnOf x qual params body scope .none kV doc pm an cdv ct) ⟨us, ks.zip ws⟩ = pure (ps.zip (us ++ ws)))
    (B : ∀ (cdv : Value) (A : Around) (outer : List PySem.Env) (s : Shared) (H : Hp) (E : XK), Room k (A.deeper (envOfC qual scope s.heap.objs.size (He.ma K (He.ga K c) "__init__") cdv)) → SSs none (cxOf (L2.CX P w) P w K mg base N qual scope (He.ma K (He.ga K c) "__init__") cdv A outer s H E) body b) :
    FI P w K mg base c (k + 1) ps.length ks (defM n b) := ⟨_, fd, ps, T.mc c h0, He.mkr_ok (T.fact h2), by rw [hj]; exact kbindsA F j hbk, fn_sim F S hn B⟩
/-- fields of these classes, named f -/
def okF (cs : List Str) (f : Str) : Str → Str → Bool := fun c g => decide (c ∈ cs ∧ g = f)
theorem Tx.okFE (T : Tx t K mg) {cs : List Str} {f : Str} (h : (cs.all fun c => t.ofok c f) = true) : OwnF K (okF cs f) := fun c g e => by
  obtain ⟨e1, rfl⟩ := of_decide_eq_true e
  exact T.ofokE c g (List.all_eq_true.mp h c e1)
def KITS : List String := ["NoneType", "bool", "int", "str", "tuple", "list"]
/-- isinstance of the class T: the types of KITS are none, T itself is one -/
def kit1 (T : Str) : Str → String ⊕ Str → Option Bool := fun T' x => if T' = T then (match x with
  | .inl s => if s ∈ KITS then some false else none
  | .inr c => if c = T then some true else none) else none
theorem Tx.kit1E (X : Tx t K mg) {T : Str} (h1 : (KITS.all fun s => decide (t.kitB T (.inl s) = some false)) = true) (h2 : t.kitB T (.inr T) = some true) : KitF K (kit1 T) := by
  refine ⟨fun T' s b h => ?_, fun T' c b h => ?_⟩
  · have h' : (if T' = T then (if s ∈ KITS then some false else none) else none) = some b := h
    clear h
    split at h'
    · rename_i e
      subst e
      split at h'
      · rename_i hs
        cases h'
        exact X.kitE.1 T' s false (of_decide_eq_true (List.all_eq_true.mp h1 s hs))
      · cases h'
    · cases h'
  · have h' : (if T' = T then (if c = T then some true else none) else none) = some b := h
    clear h
    split at h'
    · rename_i e
      subst e
      split at h'
      · rename_i hs
        cases h'
        subst hs
        exact X.kitE.2 c c true h2
      · cases h'
    · cases h'
/-- the single argument -/
def oneM (ms : MA) : ME := fun env h => (ms env h).bind fun ds h => match ds with
  | [d] => .ok d h
  | _ => .stuck
end
theorem si_enumA {xp : Option XP} {X : Cx} {e : Expr} {ms : MA} {p pos : Pos} {elts : List Expr} {kk : Nat} {tpos : Pos} (hg : Gl X "enumerate") (hm : X.mg "enumerate" = none) (A : SA xp X [e] ms) (hs : starEach [e] X.env = [(false, eval e X.env)] := by rfl) :
    SI xp X (.Tuple elts kk tpos) (.Call (.Name "enumerate" p) [e] [] pos) (enumI (oneM ms)) := si_enum hg hm A hs
/-- a def that stands under another name -/
theorem fs_as {P : Program} {w : World} {K : PySem.W.Frag} {mg : Str → Option Value} {base : Heap} {x y qual : Str} {params : Arguments} {body : List Stmt} {scope : Scope} {f : Addr} {fd : FuncData} {N ps : List Str} {k n : Nat} {m : MS} (F : FunD K x qual params body scope [] [] f fd) (S : FnScope N ps scope) (hn : n = N.length) (hm : mg y = some (.ref f)) (hb : Binds K fd ps [])
    (B : ∀ (cdv : Value) (A : Around) (outer : List PySem.Env) (s : Shared) (H : Hp) (E : XK), Room k (A.deeper (envOfC qual scope s.heap.objs.size f cdv)) → SSs none (cxOf (L2.CX P w) P w K mg base N qual scope f cdv A outer s H E) body m) :
    FS P w K mg base y (k + 1) ps.length (defM n m) := ⟨f, fd, ps, hm, F.kp, hb, fn_sim F S hn B⟩
/-- a world, with its answer to one question written out (the making of a dict's key asks it) -/
def forkW (b : Bool) (w : World) : World := { w with params := { w.params with followText := fun row => match decide (row = "special-get-raises") with | true => b | false => w.params.followText row } }
theorem forkW_eq (w : World) : forkW (w.params.followText "special-get-raises") w = w := by
  obtain ⟨d, p⟩ := w
  have : (fun row => match decide (row = "special-get-raises") with | true => p.followText "special-get-raises" | false => p.followText row) = p.followText := by
    funext row
    by_cases h : row = "special-get-raises"
    · rw [decide_eq_true h, h]
    · rw [decide_eq_false h]
  unfold forkW
  dsimp only
  rw [this]
theorem fork_all {P : World → Prop} (h : ∀ b w, P (forkW b w)) (w : World) : P w := by
  have := h (w.params.followText "special-get-raises") w
  rw [forkW_eq] at this
  exact this
end Z
/-! common mirrors -/
namespace Zc
open PySem PySem.Spec PyProof.Rows L2 Z
noncomputable def M_is_integer : MS := (retM (andM (isiM "int" (varM 0)) (notM (isiM "bool" (varM 0)))))
noncomputable def F_is_integer : MF := defM 1 M_is_integer
noncomputable def M_is_rational : MS := (seqM (ifM (torM (tnotM (testM (isiM "tuple" (varM 0)))) (btestM (binM neM (callM lenF (aconsM (varM 0) anilM)) (constM (.int 2))))) (retM (constM (.bl false))) nextM)
  (seqM (asgM (gtupM 2 (gconsM (gnameM 1) (gconsM (gnameM 2) gnilM))) (varM 0))
  (retM (andM (callM F_is_integer (aconsM (varM 1) anilM)) (andM (callM F_is_integer (aconsM (varM 2) anilM)) (andM (binM gtM (varM 2) (constM (.int 0))) (binM eqM (callM gcdF (aconsM (varM 1) (aconsM (varM 2) anilM))) (constM (.int 1)))))))))
noncomputable def F_is_rational : MF := defM 3 M_is_rational
noncomputable def M_reduced : MS := (seqM (setM 2 (callM gcdF (aconsM (varM 0) (aconsM (varM 1) anilM))))
  (retM (tupM (aconsM (binM fdivM (varM 0) (varM 2)) (aconsM (binM fdivM (varM 1) (varM 2)) anilM)))))
noncomputable def F_reduced : MF := defM 3 M_reduced
noncomputable def M_ratio : MS := (seqM (ifM (btestM (binM eqM (varM 1) (constM (.int 0)))) (raiseM "BadValue" ["name"] (aconsM (constM (.str "d")) anilM)) nextM)
  (retM (iteM (btestM (binM gtM (varM 1) (constM (.int 0)))) (callM F_reduced (aconsM (varM 0) (aconsM (varM 1) anilM))) (callM F_reduced (aconsM (negM (varM 0)) (aconsM (negM (varM 1)) anilM))))))
noncomputable def F_ratio : MF := defM 2 M_ratio
noncomputable def M__law_stream : MS := (retM (lstM (aconsM (callM listF (aconsM (varM 0) anilM)) (aconsM (constM (.int 0)) (aconsM (constM (.int 0)) anilM)))))
noncomputable def F__law_stream : MF := defM 1 M__law_stream
noncomputable def M__law_next : MS := (seqM (ifM (btestM (binM eqM (binM ixM (varM 0) (constM (.int 1))) (constM (.int 0)))) (seqM (setM 3 (binM ixM (varM 0) (constM (.int 2))))
  (seqM (setM 4 (binM addM (constM (.int 7)) (varM 3)))
  (seqM (ifM (btestM (binM ltM (varM 3) (callM lenF (aconsM (binM ixM (varM 0) (constM (.int 0))) anilM)))) (setM 4 (callM absF (aconsM (binM ixM (binM ixM (varM 0) (constM (.int 0))) (varM 3)) anilM))) nextM)
  (seqM (ifM (btestM (binM ltM (varM 4) (binM powM (constM (.int 10)) (constM (.int 18))))) (seqM (setM 4 (binM modM (callM intF (aconsM (binM addM (binM addM (binM mulM (varM 4) (constM (.int 48271))) (binM mulM (varM 3) (constM (.int 69621)))) (constM (.int 11))) anilM)) (constM (.int 2147483647))))
  (setM 4 (binM addM (binM mulM (binM modM (callM intF (aconsM (binM addM (binM mulM (varM 4) (constM (.int 16807))) (constM (.int 13))) anilM)) (constM (.int 2147483647))) (constM (.int 65537))) (varM 4)))) nextM)
  (seqM (putM setL (varM 0) (constM (.int 1)) (varM 4))
  (putM setL (varM 0) (constM (.int 2)) (binM addM (varM 3) (constM (.int 1))))))))) nextM)
  (seqM (setM 2 (binM modM (callM intF (aconsM (binM ixM (varM 0) (constM (.int 1))) anilM)) (varM 1)))
  (seqM (putM setL (varM 0) (constM (.int 1)) (binM fdivM (binM ixM (varM 0) (constM (.int 1))) (varM 1)))
  (retM (varM 2)))))
noncomputable def F__law_next : MF := defM 5 M__law_next
noncomputable def M__law_is_integer : MS := (retM (andM (isiM "int" (varM 0)) (notM (isiM "bool" (varM 0)))))
noncomputable def F__law_is_integer : MF := defM 1 M__law_is_integer
noncomputable def M__law_gcd : MS := (seqM (setM 0 (callM absF (aconsM (varM 0) anilM)))
  (seqM (setM 1 (callM absF (aconsM (varM 1) anilM)))
  (seqM (forM (rngI1 (aconsM (constM (.int 40000)) anilM)) (gnameM 2) (seqM (ifM (btestM (binM eqM (varM 1) (constM (.int 0)))) brkM nextM)
  (parM 0 1 (aconsM (varM 1) (aconsM (binM modM (callM intF (aconsM (varM 0) anilM)) (varM 1)) anilM)))))
  (retM (varM 0)))))
noncomputable def F__law_gcd : MF := defM 3 M__law_gcd
noncomputable def M__law_low : MS := (seqM (setM 2 (callM F__law_gcd (aconsM (varM 0) (aconsM (varM 1) anilM))))
  (seqM (ifM (btestM (binM ltM (varM 1) (constM (.int 0)))) (setM 2 (binM subM (constM (.int 0)) (varM 2))) nextM)
  (retM (tupM (aconsM (binM fdivM (varM 0) (varM 2)) (aconsM (binM fdivM (varM 1) (varM 2)) anilM))))))
noncomputable def F__law_low : MF := defM 3 M__law_low
noncomputable def M__law_plus : MS := (retM (callM F__law_low (aconsM (binM addM (binM mulM (binM ixM (varM 0) (constM (.int 0))) (binM ixM (varM 1) (constM (.int 1)))) (binM mulM (binM ixM (varM 1) (constM (.int 0))) (binM ixM (varM 0) (constM (.int 1))))) (aconsM (binM mulM (binM ixM (varM 0) (constM (.int 1))) (binM ixM (varM 1) (constM (.int 1)))) anilM))))
noncomputable def F__law_plus : MF := defM 2 M__law_plus
noncomputable def M__law_times : MS := (retM (callM F__law_low (aconsM (binM mulM (binM ixM (varM 0) (constM (.int 0))) (binM ixM (varM 1) (constM (.int 0)))) (aconsM (binM mulM (binM ixM (varM 0) (constM (.int 1))) (binM ixM (varM 1) (constM (.int 1)))) anilM))))
noncomputable def F__law_times : MF := defM 2 M__law_times
noncomputable def M__law_power : MS := (seqM (setM 2 (tupM (aconsM (constM (.int 1)) (aconsM (constM (.int 1)) anilM))))
  (seqM (forM (rngI1 (aconsM (varM 1) anilM)) (gnameM 3) (setM 2 (tupM (aconsM (binM mulM (binM ixM (varM 2) (constM (.int 0))) (binM ixM (varM 0) (constM (.int 0)))) (aconsM (binM mulM (binM ixM (varM 2) (constM (.int 1))) (binM ixM (varM 0) (constM (.int 1)))) anilM)))))
  (retM (varM 2))))
noncomputable def F__law_power : MF := defM 4 M__law_power
noncomputable def M__law_ratio : MS := (seqM (setM 3 (binM subM (callM F__law_next (aconsM (varM 0) (aconsM (binM addM (binM mulM (constM (.int 2)) (varM 1)) (constM (.int 1))) anilM))) (varM 1)))
  (retM (callM F__law_low (aconsM (varM 3) (aconsM (binM addM (constM (.int 1)) (callM F__law_next (aconsM (varM 0) (aconsM (varM 2) anilM)))) anilM)))))
noncomputable def F__law_ratio : MF := defM 4 M__law_ratio
end Zc
/-! common mirrors -/
namespace Zc
open PySem PySem.Spec PyProof.Rows L2 Z
noncomputable def M_plus : MS := (retM (callM F_reduced (aconsM (binM addM (binM mulM (binM ixM (varM 0) (constM (.int 0))) (binM ixM (varM 1) (constM (.int 1)))) (binM mulM (binM ixM (varM 0) (constM (.int 1))) (binM ixM (varM 1) (constM (.int 0))))) (aconsM (binM mulM (binM ixM (varM 0) (constM (.int 1))) (binM ixM (varM 1) (constM (.int 1)))) anilM))))
noncomputable def F_plus : MF := defM 2 M_plus
noncomputable def M_minus : MS := (retM (callM F_reduced (aconsM (binM subM (binM mulM (binM ixM (varM 0) (constM (.int 0))) (binM ixM (varM 1) (constM (.int 1)))) (binM mulM (binM ixM (varM 0) (constM (.int 1))) (binM ixM (varM 1) (constM (.int 0))))) (aconsM (binM mulM (binM ixM (varM 0) (constM (.int 1))) (binM ixM (varM 1) (constM (.int 1)))) anilM))))
noncomputable def F_minus : MF := defM 2 M_minus
noncomputable def M_times : MS := (retM (callM F_reduced (aconsM (binM mulM (binM ixM (varM 0) (constM (.int 0))) (binM ixM (varM 1) (constM (.int 0)))) (aconsM (binM mulM (binM ixM (varM 0) (constM (.int 1))) (binM ixM (varM 1) (constM (.int 1)))) anilM))))
noncomputable def F_times : MF := defM 2 M_times
noncomputable def M_over : MS := (seqM (ifM (btestM (binM eqM (binM ixM (varM 1) (constM (.int 0))) (constM (.int 0)))) (raiseM "BadValue" ["name"] (aconsM (constM (.str "b")) anilM)) nextM)
  (retM (callM F_ratio (aconsM (binM mulM (binM ixM (varM 0) (constM (.int 0))) (binM ixM (varM 1) (constM (.int 1)))) (aconsM (binM mulM (binM ixM (varM 0) (constM (.int 1))) (binM ixM (varM 1) (constM (.int 0)))) anilM)))))
noncomputable def F_over : MF := defM 2 M_over
noncomputable def M_less : MS := (retM (binM ltM (binM mulM (binM ixM (varM 0) (constM (.int 0))) (binM ixM (varM 1) (constM (.int 1)))) (binM mulM (binM ixM (varM 0) (constM (.int 1))) (binM ixM (varM 1) (constM (.int 0))))))
noncomputable def F_less : MF := defM 2 M_less
noncomputable def M__law_equal (F__law_equal : MF) : MS := (seqM (ifM (btestM (binM (isM false) (varM 1) (constM .non))) (retM (binM (isM false) (varM 0) (constM .non))) nextM)
  (seqM (ifM (testM (isiM "bool" (varM 1))) (retM (andM (isiM "bool" (varM 0)) (binM eqM (varM 0) (varM 1)))) nextM)
  (seqM (ifM (testM (isiM "int" (varM 1))) (retM (andM (callM F__law_is_integer (aconsM (varM 0) anilM)) (binM eqM (varM 0) (varM 1)))) nextM)
  (seqM (ifM (testM (isiM "str" (varM 1))) (retM (andM (isiM "str" (varM 0)) (binM eqM (varM 0) (varM 1)))) nextM)
  (seqM (ifM (tandM (testM (isiM "tuple" (varM 1))) (tnotM (testM (isiM "tuple" (varM 0))))) (retM (constM (.bl false))) nextM)
  (seqM (ifM (tandM (testM (isiM "list" (varM 1))) (tnotM (testM (isiM "list" (varM 0))))) (retM (constM (.bl false))) nextM)
  (seqM (ifM (btestM (binM neM (callM lenF (aconsM (varM 0) anilM)) (callM lenF (aconsM (varM 1) anilM)))) (retM (constM (.bl false))) nextM)
  (retM (callM allF (aconsM (lcM (rngI1 (aconsM (callM lenF (aconsM (varM 1) anilM)) anilM)) [2] (gnameM 2) yesM (callM F__law_equal (aconsM (binM ixM (varM 0) (varM 2)) (aconsM (binM ixM (varM 1) (varM 2)) anilM)))) anilM))))))))))
noncomputable def F__law_equal_r : Nat → MF
  | 0 => fun _ _ => .stuck
  | n + 1 => defM 3 (M__law_equal (F__law_equal_r n))
noncomputable def F__law_equal : MF := F__law_equal_r 6
noncomputable def M_is_square : MS := (retM (binM eqM (binM mulM (callM isqrtF (aconsM (varM 0) anilM)) (callM isqrtF (aconsM (varM 0) anilM))) (varM 0)))
noncomputable def F_is_square : MF := defM 1 M_is_square
noncomputable def M_is_field : MS := (retM (andM (callM F_is_integer (aconsM (varM 0) anilM)) (orM (binM eqM (varM 0) (constM (.int 0))) (andM (binM gtM (varM 0) (constM (.int 0))) (notM (callM F_is_square (aconsM (varM 0) anilM)))))))
noncomputable def F_is_field : MF := defM 1 M_is_field
noncomputable def M_is_element : MS := (seqM (ifM (torM (tnotM (testM (isiM "tuple" (varM 1)))) (torM (btestM (binM neM (callM lenF (aconsM (varM 1) anilM)) (constM (.int 2)))) (torM (tnotM (testM (callM F_is_rational (aconsM (binM ixM (varM 1) (constM (.int 0))) anilM)))) (tnotM (testM (callM F_is_rational (aconsM (binM ixM (varM 1) (constM (.int 1))) anilM))))))) (retM (constM (.bl false))) nextM)
  (retM (orM (binM gtM (varM 0) (constM (.int 0))) (binM eqM (binM ixM (varM 1) (constM (.int 1))) (constM (.tup [(.int 0), (.int 1)]))))))
noncomputable def F_is_element : MF := defM 2 M_is_element
noncomputable def M__law_root : MS := (seqM (setM 1 (constM (.int 0)))
  (seqM (setM 2 (constM (.int 1)))
  (seqM (forM (rngI1 (aconsM (constM (.int 4000)) anilM)) (gnameM 3) (seqM (ifM (btestM (binM gtM (binM mulM (varM 2) (varM 2)) (varM 0))) brkM nextM)
  (setM 2 (binM mulM (varM 2) (constM (.int 2))))))
  (seqM (forM (rngI1 (aconsM (constM (.int 4000)) anilM)) (gnameM 3) (seqM (ifM (btestM (binM ltM (binM subM (varM 2) (varM 1)) (constM (.int 2)))) brkM nextM)
  (seqM (setM 4 (binM fdivM (binM addM (varM 1) (varM 2)) (constM (.int 2))))
  (ifM (btestM (binM gtM (binM mulM (varM 4) (varM 4)) (varM 0))) (setM 2 (varM 4)) (setM 1 (varM 4))))))
  (retM (varM 1))))))
noncomputable def F__law_root : MF := defM 5 M__law_root
noncomputable def M__law_is_square : MS := (retM (binM eqM (binM mulM (callM F__law_root (aconsM (varM 0) anilM)) (callM F__law_root (aconsM (varM 0) anilM))) (varM 0)))
noncomputable def F__law_is_square : MF := defM 1 M__law_is_square
noncomputable def M__law_field : MS := (seqM (setM 1 (callM F__law_next (aconsM (varM 0) (aconsM (constM (.int 6)) anilM))))
  (seqM (ifM (btestM (binM eqM (varM 1) (constM (.int 0)))) (retM (constM (.int 0))) nextM)
  (seqM (setM 2 (binM ixM (lstM (aconsM (constM (.int 2)) (aconsM (constM (.int 3)) (aconsM (constM (.int 5)) (aconsM (constM (.int 8)) (aconsM (constM (.int 12)) (aconsM (constM (.int 18)) (aconsM (binM addM (constM (.int 1)) (callM F__law_next (aconsM (varM 0) (aconsM (constM (.int 200)) anilM)))) (aconsM (binM addM (constM (.int 1)) (callM F__law_next (aconsM (varM 0) (aconsM (constM (.int 200)) anilM)))) anilM))))))))) (callM F__law_next (aconsM (varM 0) (aconsM (constM (.int 8)) anilM)))))
  (seqM (ifM (btestM (binM eqM (varM 1) (constM (.int 1)))) (setM 2 (binM addM (constM (.int 1)) (callM F__law_next (aconsM (varM 0) (aconsM (binM powM (constM (.int 10)) (constM (.int 12))) anilM))))) nextM)
  (seqM (ifM (testM (callM F__law_is_square (aconsM (varM 2) anilM))) (setM 2 (binM mulM (varM 2) (constM (.int 2)))) nextM)
  (retM (varM 2)))))))
noncomputable def F__law_field : MF := defM 3 M__law_field
noncomputable def M__law_element : MS := (seqM (setM 4 (callM F__law_ratio (aconsM (varM 0) (aconsM (varM 2) (aconsM (varM 3) anilM)))))
  (seqM (setM 5 (callM F__law_ratio (aconsM (varM 0) (aconsM (varM 2) (aconsM (varM 3) anilM)))))
  (seqM (ifM (torM (btestM (binM eqM (varM 1) (constM (.int 0)))) (btestM (binM eqM (callM F__law_next (aconsM (varM 0) (aconsM (constM (.int 6)) anilM))) (constM (.int 0))))) (setM 5 (tupM (aconsM (constM (.int 0)) (aconsM (constM (.int 1)) anilM)))) nextM)
  (seqM (ifM (btestM (binM eqM (callM F__law_next (aconsM (varM 0) (aconsM (constM (.int 8)) anilM))) (constM (.int 0)))) (setM 4 (tupM (aconsM (constM (.int 0)) (aconsM (constM (.int 1)) anilM)))) nextM)
  (retM (tupM (aconsM (varM 4) (aconsM (varM 5) anilM))))))))
noncomputable def F__law_element : MF := defM 6 M__law_element
noncomputable def M__law_multiply : MS := (seqM (setM 3 (callM F__law_plus (aconsM (callM F__law_times (aconsM (binM ixM (varM 1) (constM (.int 0))) (aconsM (binM ixM (varM 2) (constM (.int 0))) anilM))) (aconsM (callM F__law_times (aconsM (tupM (aconsM (varM 0) (aconsM (constM (.int 1)) anilM))) (aconsM (callM F__law_times (aconsM (binM ixM (varM 1) (constM (.int 1))) (aconsM (binM ixM (varM 2) (constM (.int 1))) anilM))) anilM))) anilM))))
  (retM (tupM (aconsM (varM 3) (aconsM (callM F__law_plus (aconsM (callM F__law_times (aconsM (binM ixM (varM 1) (constM (.int 0))) (aconsM (binM ixM (varM 2) (constM (.int 1))) anilM))) (aconsM (callM F__law_times (aconsM (binM ixM (varM 1) (constM (.int 1))) (aconsM (binM ixM (varM 2) (constM (.int 0))) anilM))) anilM))) anilM)))))
noncomputable def F__law_multiply : MF := defM 4 M__law_multiply
noncomputable def M__law_sign : MS := (retM (binM subM (callM intF (aconsM (binM gtM (varM 0) (constM (.int 0))) anilM)) (callM intF (aconsM (binM ltM (varM 0) (constM (.int 0))) anilM))))
noncomputable def F__law_sign : MF := defM 1 M__law_sign
noncomputable def M__law_sign_of : MS := (seqM (asgM (gtupM 2 (gconsM (gtupM 2 (gconsM (gnameM 4) (gconsM (gnameM 5) gnilM))) (gconsM (gtupM 2 (gconsM (gnameM 6) (gconsM (gnameM 7) gnilM))) gnilM))) (varM 1))
  (seqM (setM 2 (binM mulM (varM 4) (varM 7)))
  (seqM (setM 3 (binM mulM (varM 6) (varM 5)))
  (seqM (ifM (tandM (btestM (binM geM (varM 2) (constM (.int 0)))) (btestM (binM geM (binM mulM (varM 3) (varM 0)) (constM (.int 0))))) (retM (callM intF (aconsM (orM (binM gtM (varM 2) (constM (.int 0))) (binM gtM (binM mulM (varM 3) (varM 0)) (constM (.int 0)))) anilM))) nextM)
  (seqM (ifM (tandM (btestM (binM leM (varM 2) (constM (.int 0)))) (btestM (binM leM (binM mulM (varM 3) (varM 0)) (constM (.int 0))))) (retM (negM (constM (.int 1)))) nextM)
  (seqM (ifM (btestM (binM gtM (binM mulM (varM 2) (varM 2)) (binM mulM (binM mulM (varM 3) (varM 3)) (varM 0)))) (retM (callM F__law_sign (aconsM (varM 2) anilM))) nextM)
  (retM (callM F__law_sign (aconsM (varM 3) anilM)))))))))
noncomputable def F__law_sign_of : MF := defM 8 M__law_sign_of
noncomputable def M__law_is : MS := (retM (andM (isiM "bool" (varM 0)) (binM eqM (varM 0) (varM 1))))
noncomputable def F__law_is : MF := defM 2 M__law_is
noncomputable def M_whole : MS := (retM (tupM (aconsM (varM 0) (aconsM (constM (.int 1)) anilM))))
noncomputable def F_whole : MF := defM 1 M_whole
noncomputable def M_add : MS := (retM (tupM (aconsM (callM F_plus (aconsM (binM ixM (varM 1) (constM (.int 0))) (aconsM (binM ixM (varM 2) (constM (.int 0))) anilM))) (aconsM (callM F_plus (aconsM (binM ixM (varM 1) (constM (.int 1))) (aconsM (binM ixM (varM 2) (constM (.int 1))) anilM))) anilM))))
noncomputable def F_add : MF := defM 3 M_add
noncomputable def M_subtract : MS := (retM (tupM (aconsM (callM F_minus (aconsM (binM ixM (varM 1) (constM (.int 0))) (aconsM (binM ixM (varM 2) (constM (.int 0))) anilM))) (aconsM (callM F_minus (aconsM (binM ixM (varM 1) (constM (.int 1))) (aconsM (binM ixM (varM 2) (constM (.int 1))) anilM))) anilM))))
noncomputable def F_subtract : MF := defM 3 M_subtract
noncomputable def M_multiply : MS := (seqM (setM 3 (callM F_plus (aconsM (callM F_times (aconsM (binM ixM (varM 1) (constM (.int 0))) (aconsM (binM ixM (varM 2) (constM (.int 0))) anilM))) (aconsM (callM F_times (aconsM (callM F_whole (aconsM (varM 0) anilM)) (aconsM (callM F_times (aconsM (binM ixM (varM 1) (constM (.int 1))) (aconsM (binM ixM (varM 2) (constM (.int 1))) anilM))) anilM))) anilM))))
  (retM (tupM (aconsM (varM 3) (aconsM (callM F_plus (aconsM (callM F_times (aconsM (binM ixM (varM 1) (constM (.int 0))) (aconsM (binM ixM (varM 2) (constM (.int 1))) anilM))) (aconsM (callM F_times (aconsM (binM ixM (varM 1) (constM (.int 1))) (aconsM (binM ixM (varM 2) (constM (.int 0))) anilM))) anilM))) anilM)))))
noncomputable def F_multiply : MF := defM 4 M_multiply
noncomputable def M_norm : MS := (retM (callM F_minus (aconsM (callM F_times (aconsM (binM ixM (varM 1) (constM (.int 0))) (aconsM (binM ixM (varM 1) (constM (.int 0))) anilM))) (aconsM (callM F_times (aconsM (callM F_whole (aconsM (varM 0) anilM)) (aconsM (callM F_times (aconsM (binM ixM (varM 1) (constM (.int 1))) (aconsM (binM ixM (varM 1) (constM (.int 1))) anilM))) anilM))) anilM))))
noncomputable def F_norm : MF := defM 2 M_norm
noncomputable def M_divide : MS := (seqM (ifM (btestM (binM eqM (varM 2) (tupM (aconsM (constM (.tup [(.int 0), (.int 1)])) (aconsM (constM (.tup [(.int 0), (.int 1)])) anilM))))) (raiseM "BadValue" ["name"] (aconsM (constM (.str "b")) anilM)) nextM)
  (seqM (setM 3 (callM F_norm (aconsM (varM 0) (aconsM (varM 2) anilM))))
  (seqM (asgM (gtupM 2 (gconsM (gnameM 4) (gconsM (gnameM 5) gnilM))) (callM F_multiply (aconsM (varM 0) (aconsM (varM 1) (aconsM (tupM (aconsM (binM ixM (varM 2) (constM (.int 0))) (aconsM (tupM (aconsM (negM (binM ixM (binM ixM (varM 2) (constM (.int 1))) (constM (.int 0)))) (aconsM (binM ixM (binM ixM (varM 2) (constM (.int 1))) (constM (.int 1))) anilM))) anilM))) anilM)))))
  (retM (tupM (aconsM (callM F_over (aconsM (varM 4) (aconsM (varM 3) anilM))) (aconsM (callM F_over (aconsM (varM 5) (aconsM (varM 3) anilM))) anilM)))))))
noncomputable def F_divide : MF := defM 6 M_divide
noncomputable def M__law_is_rational : MS := (seqM (ifM (torM (tnotM (testM (isiM "tuple" (varM 0)))) (torM (btestM (binM neM (callM lenF (aconsM (varM 0) anilM)) (constM (.int 2)))) (torM (tnotM (testM (callM F__law_is_integer (aconsM (binM ixM (varM 0) (constM (.int 0))) anilM)))) (tnotM (testM (callM F__law_is_integer (aconsM (binM ixM (varM 0) (constM (.int 1))) anilM))))))) (retM (constM (.bl false))) nextM)
  (retM (andM (binM gtM (binM ixM (varM 0) (constM (.int 1))) (constM (.int 0))) (binM eqM (callM F__law_gcd (aconsM (binM ixM (varM 0) (constM (.int 0))) (aconsM (binM ixM (varM 0) (constM (.int 1))) anilM))) (constM (.int 1))))))
noncomputable def F__law_is_rational : MF := defM 1 M__law_is_rational
noncomputable def M_sign : MS := (retM (binM subM (callM intF (aconsM (binM gtM (varM 0) (constM (.int 0))) anilM)) (callM intF (aconsM (binM ltM (varM 0) (constM (.int 0))) anilM))))
noncomputable def F_sign : MF := defM 1 M_sign
noncomputable def M_sign_of : MS := (seqM (setM 2 (callM F_sign (aconsM (binM ixM (binM ixM (varM 1) (constM (.int 0))) (constM (.int 0))) anilM)))
  (seqM (setM 3 (callM F_sign (aconsM (binM ixM (binM ixM (varM 1) (constM (.int 1))) (constM (.int 0))) anilM)))
  (seqM (ifM (torM (btestM (binM eqM (varM 3) (constM (.int 0)))) (btestM (binM eqM (varM 2) (varM 3)))) (retM (varM 2)) nextM)
  (seqM (ifM (btestM (binM eqM (varM 2) (constM (.int 0)))) (retM (varM 3)) nextM)
  (retM (binM mulM (varM 2) (callM F_sign (aconsM (binM ixM (callM F_norm (aconsM (varM 0) (aconsM (varM 1) anilM))) (constM (.int 0))) anilM))))))))
noncomputable def F_sign_of : MF := defM 4 M_sign_of
noncomputable def M_rational_root : MS := (seqM (ifM (torM (btestM (binM ltM (binM ixM (varM 0) (constM (.int 0))) (constM (.int 0)))) (torM (tnotM (testM (callM F_is_square (aconsM (binM ixM (varM 0) (constM (.int 0))) anilM)))) (tnotM (testM (callM F_is_square (aconsM (binM ixM (varM 0) (constM (.int 1))) anilM)))))) (retM (constM .non)) nextM)
  (retM (tupM (aconsM (callM isqrtF (aconsM (binM ixM (varM 0) (constM (.int 0))) anilM)) (aconsM (callM isqrtF (aconsM (binM ixM (varM 0) (constM (.int 1))) anilM)) anilM)))))
noncomputable def F_rational_root : MF := defM 1 M_rational_root
noncomputable def M_pure_root : MS := (seqM (setM 2 (callM F_rational_root (aconsM (varM 1) anilM)))
  (seqM (ifM (btestM (binM (isM true) (varM 2) (constM .non))) (retM (tupM (aconsM (varM 2) (aconsM (constM (.tup [(.int 0), (.int 1)])) anilM)))) nextM)
  (seqM (ifM (btestM (binM gtM (varM 0) (constM (.int 0)))) (setM 2 (callM F_rational_root (aconsM (callM F_over (aconsM (varM 1) (aconsM (callM F_whole (aconsM (varM 0) anilM)) anilM))) anilM))) nextM)
  (seqM (ifM (btestM (binM (isM true) (varM 2) (constM .non))) (retM (tupM (aconsM (constM (.tup [(.int 0), (.int 1)])) (aconsM (varM 2) anilM)))) nextM)
  (retM (constM .non))))))
noncomputable def F_pure_root : MF := defM 3 M_pure_root
noncomputable def M_not_negative : MS := (seqM (ifM (btestM (binM ltM (callM F_sign_of (aconsM (varM 0) (aconsM (varM 1) anilM))) (constM (.int 0)))) (retM (tupM (aconsM (tupM (aconsM (negM (binM ixM (binM ixM (varM 1) (constM (.int 0))) (constM (.int 0)))) (aconsM (binM ixM (binM ixM (varM 1) (constM (.int 0))) (constM (.int 1))) anilM))) (aconsM (tupM (aconsM (negM (binM ixM (binM ixM (varM 1) (constM (.int 1))) (constM (.int 0)))) (aconsM (binM ixM (binM ixM (varM 1) (constM (.int 1))) (constM (.int 1))) anilM))) anilM)))) nextM)
  (retM (varM 1)))
noncomputable def F_not_negative : MF := defM 2 M_not_negative
noncomputable def M_root_of : MS := (seqM (asgM (gtupM 2 (gconsM (gnameM 4) (gconsM (gnameM 5) gnilM))) (varM 1))
  (seqM (ifM (btestM (binM eqM (varM 5) (constM (.tup [(.int 0), (.int 1)])))) (retM (callM F_pure_root (aconsM (varM 0) (aconsM (varM 4) anilM)))) nextM)
  (seqM (setM 2 (callM F_rational_root (aconsM (callM F_norm (aconsM (varM 0) (aconsM (varM 1) anilM))) anilM)))
  (seqM (ifM (btestM (binM (isM false) (varM 2) (constM .non))) (retM (constM .non)) nextM)
  (seqM (forM (seqI (tupM (aconsM (callM F_plus (aconsM (varM 4) (aconsM (varM 2) anilM))) (aconsM (callM F_minus (aconsM (varM 4) (aconsM (varM 2) anilM))) anilM)))) (gnameM 3) (seqM (setM 6 (callM F_rational_root (aconsM (callM F_times (aconsM (varM 3) (aconsM (tupM (aconsM (constM (.int 1)) (aconsM (constM (.int 2)) anilM))) anilM))) anilM)))
  (ifM (tandM (btestM (binM (isM true) (varM 6) (constM .non))) (btestM (binM neM (varM 6) (constM (.tup [(.int 0), (.int 1)]))))) (retM (callM F_not_negative (aconsM (varM 0) (aconsM (tupM (aconsM (varM 6) (aconsM (callM F_over (aconsM (varM 5) (aconsM (callM F_times (aconsM (tupM (aconsM (constM (.int 2)) (aconsM (constM (.int 1)) anilM))) (aconsM (varM 6) anilM))) anilM))) anilM))) anilM)))) nextM)))
  (retM (constM .non)))))))
noncomputable def F_root_of : MF := defM 7 M_root_of
noncomputable def M__law_is_rational_square : MS := (retM (andM (binM geM (binM ixM (varM 0) (constM (.int 0))) (constM (.int 0))) (andM (callM F__law_is_square (aconsM (binM ixM (varM 0) (constM (.int 0))) anilM)) (callM F__law_is_square (aconsM (binM ixM (varM 0) (constM (.int 1))) anilM)))))
noncomputable def F__law_is_rational_square : MF := defM 1 M__law_is_rational_square
noncomputable def M__law_has_root : MS := (seqM (asgM (gtupM 2 (gconsM (gnameM 5) (gconsM (gnameM 6) gnilM))) (varM 1))
  (seqM (ifM (btestM (binM eqM (varM 6) (tupM (aconsM (constM (.int 0)) (aconsM (constM (.int 1)) anilM))))) (seqM (ifM (testM (callM F__law_is_rational_square (aconsM (varM 5) anilM))) (retM (constM (.bl true))) nextM)
  (retM (andM (binM gtM (varM 0) (constM (.int 0))) (callM F__law_is_rational_square (aconsM (callM F__law_low (aconsM (binM ixM (varM 5) (constM (.int 0))) (aconsM (binM mulM (binM ixM (varM 5) (constM (.int 1))) (varM 0)) anilM))) anilM))))) nextM)
  (seqM (setM 2 (callM F__law_plus (aconsM (callM F__law_times (aconsM (varM 5) (aconsM (varM 5) anilM))) (aconsM (callM F__law_times (aconsM (tupM (aconsM (binM subM (constM (.int 0)) (varM 0)) (aconsM (constM (.int 1)) anilM))) (aconsM (callM F__law_times (aconsM (varM 6) (aconsM (varM 6) anilM))) anilM))) anilM))))
  (seqM (ifM (tnotM (testM (callM F__law_is_rational_square (aconsM (varM 2) anilM)))) (retM (constM (.bl false))) nextM)
  (seqM (setM 3 (tupM (aconsM (callM F__law_root (aconsM (binM ixM (varM 2) (constM (.int 0))) anilM)) (aconsM (callM F__law_root (aconsM (binM ixM (varM 2) (constM (.int 1))) anilM)) anilM))))
  (seqM (forM (seqI (lstM (aconsM (varM 3) (aconsM (tupM (aconsM (binM subM (constM (.int 0)) (binM ixM (varM 3) (constM (.int 0)))) (aconsM (binM ixM (varM 3) (constM (.int 1))) anilM))) anilM)))) (gnameM 4) (ifM (testM (callM F__law_is_rational_square (aconsM (callM F__law_times (aconsM (tupM (aconsM (constM (.int 1)) (aconsM (constM (.int 2)) anilM))) (aconsM (callM F__law_plus (aconsM (varM 5) (aconsM (varM 4) anilM))) anilM))) anilM))) (retM (constM (.bl true))) nextM))
  (retM (constM (.bl false)))))))))
noncomputable def F__law_has_root : MF := defM 7 M__law_has_root
noncomputable def M__law_not_negative : MS := (seqM (ifM (btestM (binM ltM (callM F__law_sign_of (aconsM (varM 0) (aconsM (varM 1) anilM))) (constM (.int 0)))) (retM (tupM (aconsM (tupM (aconsM (binM subM (constM (.int 0)) (binM ixM (binM ixM (varM 1) (constM (.int 0))) (constM (.int 0)))) (aconsM (binM ixM (binM ixM (varM 1) (constM (.int 0))) (constM (.int 1))) anilM))) (aconsM (tupM (aconsM (binM subM (constM (.int 0)) (binM ixM (binM ixM (varM 1) (constM (.int 1))) (constM (.int 0)))) (aconsM (binM ixM (binM ixM (varM 1) (constM (.int 1))) (constM (.int 1))) anilM))) anilM)))) nextM)
  (retM (varM 1)))
noncomputable def F__law_not_negative : MF := defM 2 M__law_not_negative
noncomputable def M_is_root : MS := (seqM (ifM (torM (btestM (binM neM (callM lenF (aconsM (varM 0) anilM)) (constM (.int 3)))) (torM (tnotM (testM (isiM "tuple" (binM ixM (varM 0) (constM (.int 1)))))) (torM (btestM (binM neM (callM lenF (aconsM (binM ixM (varM 0) (constM (.int 1))) anilM)) (constM (.int 3)))) (tnotM (testM (callM allF (aconsM (lcM (seqI (binM ixM (varM 0) (constM (.int 1)))) [5] (gnameM 5) yesM (callM F_is_integer (aconsM (varM 5) anilM))) anilM))))))) (retM (constM (.bl false))) nextM)
  (seqM (ifM (torM (tnotM (testM (callM F_is_integer (aconsM (binM ixM (varM 0) (constM (.int 2))) anilM)))) (btestM (binM (inM true) (binM ixM (varM 0) (constM (.int 2))) (tupM (aconsM (constM (.int 0)) (aconsM (constM (.int 1)) anilM)))))) (retM (constM (.bl false))) nextM)
  (seqM (asgM (gtupM 3 (gconsM (gnameM 2) (gconsM (gnameM 3) (gconsM (gnameM 4) gnilM)))) (binM ixM (varM 0) (constM (.int 1))))
  (seqM (setM 1 (binM subM (binM mulM (varM 3) (varM 3)) (binM mulM (binM mulM (constM (.int 4)) (varM 4)) (varM 2))))
  (retM (andM (binM gtM (varM 4) (constM (.int 0))) (andM (binM eqM (callM gcdF (aconsM (callM gcdF (aconsM (varM 4) (aconsM (varM 3) anilM))) (aconsM (varM 2) anilM))) (constM (.int 1))) (andM (binM gtM (varM 1) (constM (.int 0))) (notM (callM F_is_square (aconsM (varM 1) anilM)))))))))))
noncomputable def F_is_root : MF := defM 6 M_is_root
noncomputable def M_is_number : MS := (seqM (ifM (torM (tnotM (testM (isiM "tuple" (varM 0)))) (torM (btestM (binM ltM (callM lenF (aconsM (varM 0) anilM)) (constM (.int 2)))) (tnotM (testM (isiM "str" (binM ixM (varM 0) (constM (.int 0)))))))) (retM (constM (.bl false))) nextM)
  (seqM (ifM (btestM (binM eqM (binM ixM (varM 0) (constM (.int 0))) (constM (.str "rational")))) (retM (andM (binM eqM (callM lenF (aconsM (varM 0) anilM)) (constM (.int 2))) (callM F_is_rational (aconsM (binM ixM (varM 0) (constM (.int 1))) anilM)))) nextM)
  (retM (andM (binM eqM (binM ixM (varM 0) (constM (.int 0))) (constM (.str "root"))) (callM F_is_root (aconsM (varM 0) anilM))))))
noncomputable def F_is_number : MF := defM 1 M_is_number
noncomputable def M_number_of : MS := (seqM (ifM (tnotM (testM (callM F_is_field (aconsM (varM 0) anilM)))) (raiseM "BadValue" ["name"] (aconsM (constM (.str "field")) anilM)) nextM)
  (seqM (ifM (tnotM (testM (callM F_is_element (aconsM (varM 0) (aconsM (varM 1) anilM))))) (raiseM "BadValue" ["name"] (aconsM (constM (.str "element")) anilM)) nextM)
  (seqM (asgM (gtupM 2 (gconsM (gnameM 8) (gconsM (gnameM 9) gnilM))) (varM 1))
  (seqM (ifM (btestM (binM eqM (varM 9) (constM (.tup [(.int 0), (.int 1)])))) (retM (tupM (aconsM (constM (.str "rational")) (aconsM (varM 8) anilM)))) nextM)
  (seqM (setM 2 (callM F_times (aconsM (tupM (aconsM (negM (constM (.int 2))) (aconsM (constM (.int 1)) anilM))) (aconsM (varM 8) anilM))))
  (seqM (setM 3 (callM F_minus (aconsM (callM F_times (aconsM (varM 8) (aconsM (varM 8) anilM))) (aconsM (callM F_times (aconsM (tupM (aconsM (varM 0) (aconsM (constM (.int 1)) anilM))) (aconsM (callM F_times (aconsM (varM 9) (aconsM (varM 9) anilM))) anilM))) anilM))))
  (seqM (setM 4 (callM lcmF (aconsM (binM ixM (varM 2) (constM (.int 1))) (aconsM (binM ixM (varM 3) (constM (.int 1))) anilM))))
  (seqM (setM 5 (binM mulM (binM ixM (varM 3) (constM (.int 0))) (binM fdivM (varM 4) (binM ixM (varM 3) (constM (.int 1))))))
  (seqM (setM 6 (binM mulM (binM ixM (varM 2) (constM (.int 0))) (binM fdivM (varM 4) (binM ixM (varM 2) (constM (.int 1))))))
  (seqM (setM 7 (callM gcdF (aconsM (callM gcdF (aconsM (varM 4) (aconsM (varM 6) anilM))) (aconsM (varM 5) anilM))))
  (retM (tupM (aconsM (constM (.str "root")) (aconsM (tupM (aconsM (binM fdivM (varM 5) (varM 7)) (aconsM (binM fdivM (varM 6) (varM 7)) (aconsM (binM fdivM (varM 4) (varM 7)) anilM)))) (aconsM (callM intF (aconsM (binM gtM (binM ixM (varM 9) (constM (.int 0))) (constM (.int 0))) anilM)) anilM)))))))))))))))
noncomputable def F_number_of : MF := defM 10 M_number_of
noncomputable def M__law_fits : MS := (seqM (ifM (torM (tnotM (testM (isiM "tuple" (varM 2)))) (torM (btestM (binM neM (callM lenF (aconsM (varM 2) anilM)) (constM (.int 3)))) (torM (btestM (binM neM (binM ixM (varM 2) (constM (.int 0))) (constM (.str "root")))) (tnotM (testM (isiM "tuple" (binM ixM (varM 2) (constM (.int 1))))))))) (retM (constM (.bl false))) nextM)
  (seqM (ifM (torM (btestM (binM neM (callM lenF (aconsM (binM ixM (varM 2) (constM (.int 1))) anilM)) (constM (.int 3)))) (torM (tnotM (testM (callM allF (aconsM (lcM (seqI (binM ixM (varM 2) (constM (.int 1)))) [9] (gnameM 9) yesM (callM F__law_is_integer (aconsM (varM 9) anilM))) anilM)))) (tnotM (testM (callM F__law_is_integer (aconsM (binM ixM (varM 2) (constM (.int 2))) anilM)))))) (retM (constM (.bl false))) nextM)
  (seqM (asgM (gtupM 3 (gconsM (gnameM 6) (gconsM (gnameM 7) (gconsM (gnameM 8) gnilM)))) (binM ixM (varM 2) (constM (.int 1))))
  (seqM (ifM (torM (btestM (binM ltM (varM 8) (constM (.int 1)))) (torM (btestM (binM neM (callM F__law_gcd (aconsM (callM F__law_gcd (aconsM (varM 8) (aconsM (varM 7) anilM))) (aconsM (varM 6) anilM))) (constM (.int 1)))) (btestM (binM neM (binM ixM (varM 2) (constM (.int 2))) (callM intF (aconsM (binM gtM (binM ixM (binM ixM (varM 1) (constM (.int 1))) (constM (.int 0))) (constM (.int 0))) anilM)))))) (retM (constM (.bl false))) nextM)
  (seqM (setM 3 (callM F__law_multiply (aconsM (varM 0) (aconsM (varM 1) (aconsM (varM 1) anilM)))))
  (seqM (setM 4 (callM F__law_plus (aconsM (tupM (aconsM (varM 6) (aconsM (constM (.int 1)) anilM))) (aconsM (callM F__law_plus (aconsM (callM F__law_times (aconsM (tupM (aconsM (varM 7) (aconsM (constM (.int 1)) anilM))) (aconsM (binM ixM (varM 1) (constM (.int 0))) anilM))) (aconsM (callM F__law_times (aconsM (tupM (aconsM (varM 8) (aconsM (constM (.int 1)) anilM))) (aconsM (binM ixM (varM 3) (constM (.int 0))) anilM))) anilM))) anilM))))
  (seqM (setM 5 (callM F__law_plus (aconsM (callM F__law_times (aconsM (tupM (aconsM (varM 7) (aconsM (constM (.int 1)) anilM))) (aconsM (binM ixM (varM 1) (constM (.int 1))) anilM))) (aconsM (callM F__law_times (aconsM (tupM (aconsM (varM 8) (aconsM (constM (.int 1)) anilM))) (aconsM (binM ixM (varM 3) (constM (.int 1))) anilM))) anilM))))
  (retM (andM (binM eqM (varM 4) (tupM (aconsM (constM (.int 0)) (aconsM (constM (.int 1)) anilM)))) (binM eqM (varM 5) (tupM (aconsM (constM (.int 0)) (aconsM (constM (.int 1)) anilM)))))))))))))
noncomputable def F__law_fits : MF := defM 10 M__law_fits
noncomputable def M_check_number : MS := (ifM (tnotM (testM (callM F_is_number (aconsM (varM 0) anilM)))) (raiseM "BadValue" ["name"] (aconsM (varM 1) anilM)) nextM)
noncomputable def F_check_number : MF := defM 2 M_check_number
noncomputable def M_parts_of : MS := (seqM (ifM (btestM (binM eqM (binM ixM (varM 0) (constM (.int 0))) (constM (.str "rational")))) (retM (tupM (aconsM (constM (.int 0)) (aconsM (tupM (aconsM (binM ixM (varM 0) (constM (.int 1))) (aconsM (constM (.tup [(.int 0), (.int 1)])) anilM))) anilM)))) nextM)
  (seqM (asgM (gtupM 3 (gconsM (gnameM 1) (gconsM (gnameM 2) (gconsM (gnameM 3) gnilM)))) (binM ixM (varM 0) (constM (.int 1))))
  (retM (tupM (aconsM (binM subM (binM mulM (varM 2) (varM 2)) (binM mulM (binM mulM (constM (.int 4)) (varM 3)) (varM 1))) (aconsM (tupM (aconsM (callM F_ratio (aconsM (negM (varM 2)) (aconsM (binM mulM (constM (.int 2)) (varM 3)) anilM))) (aconsM (callM F_ratio (aconsM (binM subM (binM mulM (constM (.int 2)) (binM ixM (varM 0) (constM (.int 2)))) (constM (.int 1))) (aconsM (binM mulM (constM (.int 2)) (varM 3)) anilM))) anilM))) anilM))))))
noncomputable def F_parts_of : MF := defM 4 M_parts_of
noncomputable def M_element_of : MS := (seqM (exprM (callM F_check_number (aconsM (varM 0) (aconsM (constM (.str "number")) anilM))))
  (retM (callM F_parts_of (aconsM (varM 0) anilM))))
noncomputable def F_element_of : MF := defM 1 M_element_of
noncomputable def M_square_sign : MS := (seqM (setM 3 (callM F_sign (aconsM (binM ixM (varM 0) (constM (.int 0))) anilM)))
  (seqM (setM 4 (callM F_sign (aconsM (binM mulM (binM ixM (varM 1) (constM (.int 0))) (varM 2)) anilM)))
  (seqM (ifM (torM (btestM (binM eqM (varM 4) (constM (.int 0)))) (btestM (binM eqM (varM 3) (varM 4)))) (retM (varM 3)) nextM)
  (seqM (ifM (btestM (binM eqM (varM 3) (constM (.int 0)))) (retM (varM 4)) nextM)
  (retM (binM mulM (varM 3) (callM F_sign (aconsM (binM ixM (callM F_minus (aconsM (callM F_times (aconsM (varM 0) (aconsM (varM 0) anilM))) (aconsM (callM F_times (aconsM (tupM (aconsM (varM 2) (aconsM (constM (.int 1)) anilM))) (aconsM (callM F_times (aconsM (varM 1) (aconsM (varM 1) anilM))) anilM))) anilM))) (constM (.int 0))) anilM))))))))
noncomputable def F_square_sign : MF := defM 5 M_square_sign
noncomputable def M_number_sign : MS := (seqM (exprM (callM F_check_number (aconsM (varM 0) (aconsM (constM (.str "number")) anilM))))
  (seqM (asgM (gtupM 2 (gconsM (gnameM 1) (gconsM (gnameM 2) gnilM))) (callM F_parts_of (aconsM (varM 0) anilM)))
  (retM (callM F_square_sign (aconsM (binM ixM (varM 2) (constM (.int 0))) (aconsM (binM ixM (varM 2) (constM (.int 1))) (aconsM (varM 1) anilM)))))))
noncomputable def F_number_sign : MF := defM 3 M_number_sign
noncomputable def M__law_number : MS := (seqM (ifM (btestM (binM eqM (callM F__law_next (aconsM (varM 0) (aconsM (constM (.int 3)) anilM))) (constM (.int 0)))) (retM (tupM (aconsM (constM (.str "rational")) (aconsM (callM F__law_ratio (aconsM (varM 0) (aconsM (constM (.int 60)) (aconsM (constM (.int 40)) anilM)))) anilM)))) nextM)
  (seqM (setM 1 (binM addM (constM (.int 1)) (callM F__law_next (aconsM (varM 0) (aconsM (constM (.int 9)) anilM)))))
  (seqM (setM 2 (binM subM (callM F__law_next (aconsM (varM 0) (aconsM (constM (.int 41)) anilM))) (constM (.int 20))))
  (seqM (setM 3 (binM subM (callM F__law_next (aconsM (varM 0) (aconsM (constM (.int 41)) anilM))) (constM (.int 20))))
  (seqM (setM 4 (callM F__law_gcd (aconsM (callM F__law_gcd (aconsM (varM 1) (aconsM (varM 2) anilM))) (aconsM (varM 3) anilM))))
  (seqM (parM3 1 2 3 (aconsM (binM fdivM (varM 1) (varM 4)) (aconsM (binM fdivM (varM 2) (varM 4)) (aconsM (binM fdivM (varM 3) (varM 4)) anilM))))
  (seqM (setM 5 (binM subM (binM mulM (varM 2) (varM 2)) (binM mulM (binM mulM (constM (.int 4)) (varM 1)) (varM 3))))
  (seqM (ifM (torM (btestM (binM leM (varM 5) (constM (.int 0)))) (testM (callM F__law_is_square (aconsM (varM 5) anilM)))) (retM (tupM (aconsM (constM (.str "root")) (aconsM (tupM (aconsM (binM subM (constM (.int 0)) (constM (.int 2))) (aconsM (constM (.int 0)) (aconsM (constM (.int 1)) anilM)))) (aconsM (callM F__law_next (aconsM (varM 0) (aconsM (constM (.int 2)) anilM))) anilM))))) nextM)
  (retM (tupM (aconsM (constM (.str "root")) (aconsM (tupM (aconsM (varM 3) (aconsM (varM 2) (aconsM (varM 1) anilM)))) (aconsM (callM F__law_next (aconsM (varM 0) (aconsM (constM (.int 2)) anilM))) anilM)))))))))))))
noncomputable def F__law_number : MF := defM 6 M__law_number
noncomputable def M__law_beside : MS := (seqM (ifM (btestM (binM eqM (binM ixM (varM 0) (constM (.int 0))) (constM (.str "rational")))) (seqM (setM 5 (binM mulM (binM ixM (binM ixM (varM 0) (constM (.int 1))) (constM (.int 0))) (varM 2)))
  (seqM (setM 6 (binM mulM (varM 1) (binM ixM (binM ixM (varM 0) (constM (.int 1))) (constM (.int 1)))))
  (retM (binM subM (callM intF (aconsM (binM gtM (varM 5) (varM 6)) anilM)) (callM intF (aconsM (binM ltM (varM 5) (varM 6)) anilM)))))) nextM)
  (seqM (asgM (gtupM 3 (gconsM (gnameM 7) (gconsM (gnameM 8) (gconsM (gnameM 9) gnilM)))) (binM ixM (varM 0) (constM (.int 1))))
  (seqM (setM 3 (binM addM (binM addM (binM mulM (binM mulM (varM 7) (varM 2)) (varM 2)) (binM mulM (binM mulM (varM 8) (varM 1)) (varM 2))) (binM mulM (binM mulM (varM 9) (varM 1)) (varM 1))))
  (seqM (setM 4 (binM addM (binM mulM (binM mulM (constM (.int 2)) (varM 9)) (varM 1)) (binM mulM (varM 8) (varM 2))))
  (seqM (ifM (btestM (binM eqM (binM ixM (varM 0) (constM (.int 2))) (constM (.int 1)))) (retM (iteM (torM (btestM (binM leM (varM 4) (constM (.int 0)))) (btestM (binM ltM (varM 3) (constM (.int 0))))) (constM (.int 1)) (negM (constM (.int 1))))) nextM)
  (retM (iteM (torM (btestM (binM geM (varM 4) (constM (.int 0)))) (btestM (binM ltM (varM 3) (constM (.int 0))))) (negM (constM (.int 1))) (constM (.int 1)))))))))
noncomputable def F__law_beside : MF := defM 10 M__law_beside
noncomputable def M__law_floor : MS := (seqM (forM (rngI1 (aconsM (constM (.int 400)) anilM)) (gnameM 4) (seqM (ifM (btestM (binM ltM (binM subM (varM 3) (varM 2)) (constM (.int 2)))) brkM nextM)
  (seqM (setM 5 (binM fdivM (binM addM (varM 2) (varM 3)) (constM (.int 2))))
  (ifM (btestM (binM geM (callM F__law_beside (aconsM (varM 0) (aconsM (varM 5) (aconsM (varM 1) anilM)))) (constM (.int 0)))) (setM 2 (varM 5)) (setM 3 (varM 5))))))
  (retM (varM 2)))
noncomputable def F__law_floor : MF := defM 6 M__law_floor
noncomputable def M__law_compare : MS := (seqM (ifM (btestM (binM eqM (varM 0) (varM 1))) (retM (constM (.int 0))) nextM)
  (seqM (setM 2 (callM F__law_floor (aconsM (varM 0) (aconsM (constM (.int 1)) (aconsM (negM (constM (.int 2000))) (aconsM (constM (.int 2000)) anilM))))))
  (seqM (setM 3 (callM F__law_floor (aconsM (varM 1) (aconsM (constM (.int 1)) (aconsM (negM (constM (.int 2000))) (aconsM (constM (.int 2000)) anilM))))))
  (seqM (setM 4 (constM (.int 1)))
  (seqM (forM (rngI1 (aconsM (constM (.int 120)) anilM)) (gnameM 5) (seqM (ifM (btestM (binM neM (varM 2) (varM 3))) brkM nextM)
  (seqM (setM 4 (binM mulM (varM 4) (constM (.int 2))))
  (seqM (setM 2 (callM F__law_floor (aconsM (varM 0) (aconsM (varM 4) (aconsM (binM mulM (constM (.int 2)) (varM 2)) (aconsM (binM addM (binM mulM (constM (.int 2)) (varM 2)) (constM (.int 2))) anilM))))))
  (setM 3 (callM F__law_floor (aconsM (varM 1) (aconsM (varM 4) (aconsM (binM mulM (constM (.int 2)) (varM 3)) (aconsM (binM addM (binM mulM (constM (.int 2)) (varM 3)) (constM (.int 2))) anilM))))))))))
  (retM (binM subM (callM intF (aconsM (binM gtM (varM 2) (varM 3)) anilM)) (callM intF (aconsM (binM ltM (varM 2) (varM 3)) anilM)))))))))
noncomputable def F__law_compare : MF := defM 6 M__law_compare
noncomputable def M_two_roots_sign : MS := (seqM (setM 4 (callM F_sign (aconsM (binM mulM (binM ixM (varM 0) (constM (.int 0))) (varM 1)) anilM)))
  (seqM (setM 5 (callM F_sign (aconsM (binM mulM (binM ixM (varM 2) (constM (.int 0))) (varM 3)) anilM)))
  (seqM (ifM (torM (btestM (binM eqM (varM 4) (constM (.int 0)))) (torM (btestM (binM eqM (varM 5) (constM (.int 0)))) (btestM (binM eqM (varM 4) (varM 5))))) (retM (callM F_sign (aconsM (binM addM (varM 4) (varM 5)) anilM))) nextM)
  (retM (binM mulM (varM 4) (callM F_sign (aconsM (binM ixM (callM F_minus (aconsM (callM F_times (aconsM (tupM (aconsM (varM 1) (aconsM (constM (.int 1)) anilM))) (aconsM (callM F_times (aconsM (varM 0) (aconsM (varM 0) anilM))) anilM))) (aconsM (callM F_times (aconsM (tupM (aconsM (varM 3) (aconsM (constM (.int 1)) anilM))) (aconsM (callM F_times (aconsM (varM 2) (aconsM (varM 2) anilM))) anilM))) anilM))) (constM (.int 0))) anilM)))))))
noncomputable def F_two_roots_sign : MF := defM 6 M_two_roots_sign
noncomputable def M_total_sign : MS := (seqM (setM 5 (callM F_sign (aconsM (binM ixM (varM 0) (constM (.int 0))) anilM)))
  (seqM (setM 6 (callM F_two_roots_sign (aconsM (varM 1) (aconsM (varM 2) (aconsM (varM 3) (aconsM (varM 4) anilM))))))
  (seqM (ifM (torM (btestM (binM eqM (varM 5) (constM (.int 0)))) (torM (btestM (binM eqM (varM 6) (constM (.int 0)))) (btestM (binM eqM (varM 5) (varM 6))))) (retM (callM F_sign (aconsM (binM addM (varM 5) (varM 6)) anilM))) nextM)
  (seqM (setM 7 (callM F_plus (aconsM (callM F_times (aconsM (tupM (aconsM (varM 2) (aconsM (constM (.int 1)) anilM))) (aconsM (callM F_times (aconsM (varM 1) (aconsM (varM 1) anilM))) anilM))) (aconsM (callM F_times (aconsM (tupM (aconsM (varM 4) (aconsM (constM (.int 1)) anilM))) (aconsM (callM F_times (aconsM (varM 3) (aconsM (varM 3) anilM))) anilM))) anilM))))
  (retM (binM mulM (varM 5) (callM F_square_sign (aconsM (callM F_minus (aconsM (callM F_times (aconsM (varM 0) (aconsM (varM 0) anilM))) (aconsM (varM 7) anilM))) (aconsM (callM F_times (aconsM (tupM (aconsM (negM (constM (.int 2))) (aconsM (constM (.int 1)) anilM))) (aconsM (callM F_times (aconsM (varM 1) (aconsM (varM 3) anilM))) anilM))) (aconsM (binM mulM (varM 2) (varM 4)) anilM))))))))))
noncomputable def F_total_sign : MF := defM 8 M_total_sign
noncomputable def M_compare_numbers : MS := (seqM (exprM (callM F_check_number (aconsM (varM 0) (aconsM (constM (.str "first")) anilM))))
  (seqM (exprM (callM F_check_number (aconsM (varM 1) (aconsM (constM (.str "second")) anilM))))
  (seqM (asgM (gtupM 2 (gconsM (gnameM 2) (gconsM (gtupM 2 (gconsM (gnameM 4) (gconsM (gnameM 5) gnilM))) gnilM))) (callM F_parts_of (aconsM (varM 0) anilM)))
  (seqM (asgM (gtupM 2 (gconsM (gnameM 3) (gconsM (gtupM 2 (gconsM (gnameM 6) (gconsM (gnameM 7) gnilM))) gnilM))) (callM F_parts_of (aconsM (varM 1) anilM)))
  (retM (callM F_total_sign (aconsM (callM F_minus (aconsM (varM 4) (aconsM (varM 6) anilM))) (aconsM (varM 5) (aconsM (varM 2) (aconsM (tupM (aconsM (negM (binM ixM (varM 7) (constM (.int 0)))) (aconsM (binM ixM (varM 7) (constM (.int 1))) anilM))) (aconsM (varM 3) anilM)))))))))))
noncomputable def F_compare_numbers : MF := defM 8 M_compare_numbers
noncomputable def M__law_near : MS := (seqM (setM 2 (callM F__law_next (aconsM (varM 0) (aconsM (constM (.int 3)) anilM))))
  (seqM (ifM (btestM (binM eqM (varM 2) (constM (.int 0)))) (retM (varM 1)) nextM)
  (seqM (ifM (tandM (btestM (binM eqM (varM 2) (constM (.int 1)))) (btestM (binM eqM (binM ixM (varM 1) (constM (.int 0))) (constM (.str "root"))))) (retM (tupM (aconsM (constM (.str "root")) (aconsM (binM ixM (varM 1) (constM (.int 1))) (aconsM (binM subM (constM (.int 1)) (binM ixM (varM 1) (constM (.int 2)))) anilM))))) nextM)
  (seqM (setM 3 (binM addM (constM (.int 1)) (callM F__law_next (aconsM (varM 0) (aconsM (constM (.int 9999)) anilM)))))
  (seqM (setM 4 (binM addM (callM F__law_floor (aconsM (varM 1) (aconsM (varM 3) (aconsM (binM mulM (negM (constM (.int 2000))) (varM 3)) (aconsM (binM mulM (constM (.int 2000)) (varM 3)) anilM))))) (callM F__law_next (aconsM (varM 0) (aconsM (constM (.int 2)) anilM)))))
  (retM (tupM (aconsM (constM (.str "rational")) (aconsM (callM F__law_low (aconsM (varM 4) (aconsM (varM 3) anilM))) anilM)))))))))
noncomputable def F__law_near : MF := defM 5 M__law_near
noncomputable def M_floor_of : MS := (seqM (exprM (callM F_check_number (aconsM (varM 0) (aconsM (constM (.str "number")) anilM))))
  (seqM (ifM (torM (tnotM (testM (callM F_is_integer (aconsM (varM 1) anilM)))) (btestM (binM ltM (varM 1) (constM (.int 1))))) (raiseM "BadValue" ["name"] (aconsM (constM (.str "q")) anilM)) nextM)
  (seqM (ifM (btestM (binM eqM (binM ixM (varM 0) (constM (.int 0))) (constM (.str "rational")))) (retM (binM fdivM (binM mulM (binM ixM (binM ixM (varM 0) (constM (.int 1))) (constM (.int 0))) (varM 1)) (binM ixM (binM ixM (varM 0) (constM (.int 1))) (constM (.int 1))))) nextM)
  (seqM (asgM (gtupM 3 (gconsM (gnameM 3) (gconsM (gnameM 4) (gconsM (gnameM 5) gnilM)))) (binM ixM (varM 0) (constM (.int 1))))
  (seqM (setM 2 (callM isqrtF (aconsM (binM mulM (binM mulM (binM subM (binM mulM (varM 4) (varM 4)) (binM mulM (binM mulM (constM (.int 4)) (varM 5)) (varM 3))) (varM 1)) (varM 1)) anilM)))
  (seqM (ifM (btestM (binM eqM (binM ixM (varM 0) (constM (.int 2))) (constM (.int 1)))) (retM (binM fdivM (binM subM (varM 2) (binM mulM (varM 4) (varM 1))) (binM mulM (constM (.int 2)) (varM 5)))) nextM)
  (retM (binM fdivM (binM subM (binM subM (negM (varM 2)) (constM (.int 1))) (binM mulM (varM 4) (varM 1))) (binM mulM (constM (.int 2)) (varM 5))))))))))
noncomputable def F_floor_of : MF := defM 6 M_floor_of
noncomputable def M__law_long : MS := (seqM (setM 1 (binM addM (constM (.int 1)) (callM F__law_next (aconsM (varM 0) (aconsM (binM powM (constM (.int 10)) (constM (.int 9))) anilM)))))
  (seqM (setM 2 (binM subM (callM F__law_next (aconsM (varM 0) (aconsM (binM mulM (constM (.int 2)) (binM powM (constM (.int 10)) (constM (.int 9)))) anilM))) (binM powM (constM (.int 10)) (constM (.int 9)))))
  (seqM (setM 3 (binM subM (binM subM (constM (.int 0)) (constM (.int 1))) (callM F__law_next (aconsM (varM 0) (aconsM (binM powM (constM (.int 10)) (constM (.int 9))) anilM)))))
  (seqM (setM 4 (callM F__law_gcd (aconsM (callM F__law_gcd (aconsM (varM 1) (aconsM (varM 2) anilM))) (aconsM (varM 3) anilM))))
  (seqM (parM3 1 2 3 (aconsM (binM fdivM (varM 1) (varM 4)) (aconsM (binM fdivM (varM 2) (varM 4)) (aconsM (binM fdivM (varM 3) (varM 4)) anilM))))
  (seqM (ifM (testM (callM F__law_is_square (aconsM (binM subM (binM mulM (varM 2) (varM 2)) (binM mulM (binM mulM (constM (.int 4)) (varM 1)) (varM 3))) anilM))) (retM (tupM (aconsM (constM (.str "rational")) (aconsM (callM F__law_low (aconsM (varM 2) (aconsM (varM 1) anilM))) anilM)))) nextM)
  (retM (tupM (aconsM (constM (.str "root")) (aconsM (tupM (aconsM (varM 3) (aconsM (varM 2) (aconsM (varM 1) anilM)))) (aconsM (callM F__law_next (aconsM (varM 0) (aconsM (constM (.int 2)) anilM))) anilM)))))))))))
noncomputable def F__law_long : MF := defM 5 M__law_long
end Zc
/-! common mirrors -/
namespace Zc
open PySem PySem.Spec PyProof.Rows L2 Z
noncomputable def M_is_index : MS := (retM (andM (callM F_is_integer (aconsM (varM 0) anilM)) (chainM leM ltM (constM (.int 0)) (varM 0) (varM 1))))
noncomputable def F_is_index : MF := defM 2 M_is_index
noncomputable def M_has_form : MS := (seqM (ifM (torM (tnotM (testM (isiM "tuple" (varM 0)))) (torM (btestM (binM eqM (callM lenF (aconsM (varM 0) anilM)) (constM (.int 0)))) (tnotM (testM (isiM "str" (binM ixM (varM 0) (constM (.int 0)))))))) (retM (constM (.bl false))) nextM)
  (seqM (ifM (btestM (binM neM (callM lenF (aconsM (varM 0) anilM)) (wgetM [("exit", (.int 2)), ("draw", (.int 2)), ("choose", (.int 2)), ("call", (.int 3)), ("reward", (.int 3)), ("reject", (.int 1)), ("stop", (.int 1))] (binM ixM (varM 0) (constM (.int 0))) (constM (.int 0))))) (retM (constM (.bl false))) nextM)
  (seqM (ifM (btestM (binM eqM (binM ixM (varM 0) (constM (.int 0))) (constM (.str "exit")))) (retM (callM F_is_integer (aconsM (binM ixM (varM 0) (constM (.int 1))) anilM))) nextM)
  (seqM (ifM (btestM (binM eqM (binM ixM (varM 0) (constM (.int 0))) (constM (.str "draw")))) (retM (andM (isiM "tuple" (binM ixM (varM 0) (constM (.int 1)))) (callM allF (aconsM (lcM (seqI (binM ixM (varM 0) (constM (.int 1)))) [1] (gnameM 1) yesM (andM (isiM "tuple" (varM 1)) (binM eqM (callM lenF (aconsM (varM 1) anilM)) (constM (.int 2))))) anilM)))) nextM)
  (seqM (ifM (btestM (binM eqM (binM ixM (varM 0) (constM (.int 0))) (constM (.str "choose")))) (retM (isiM "tuple" (binM ixM (varM 0) (constM (.int 1))))) nextM)
  (seqM (ifM (btestM (binM eqM (binM ixM (varM 0) (constM (.int 0))) (constM (.str "call")))) (retM (andM (callM F_is_integer (aconsM (binM ixM (varM 0) (constM (.int 1))) anilM)) (isiM "tuple" (binM ixM (varM 0) (constM (.int 2)))))) nextM)
  (retM (constM (.bl true)))))))))
noncomputable def F_has_form : MF := defM 2 M_has_form
noncomputable def M_is_chance : MS := (retM (andM (callM F_is_rational (aconsM (varM 0) anilM)) (andM (binM gtM (binM ixM (varM 0) (constM (.int 0))) (constM (.int 0))) (binM leM (binM ixM (varM 0) (constM (.int 1))) (constM (.int 60))))))
noncomputable def F_is_chance : MF := defM 1 M_is_chance
noncomputable def M_is_amount : MS := (retM (andM (callM F_is_rational (aconsM (varM 0) anilM)) (andM (chainM leM leM (constM (.int 0)) (binM ixM (varM 0) (constM (.int 0))) (constM (.int 1000))) (binM leM (binM ixM (varM 0) (constM (.int 1))) (constM (.int 12))))))
noncomputable def F_is_amount : MF := defM 1 M_is_amount
noncomputable def M_draw_problem : MS := (seqM (ifM (tnotM (btestM (chainM leM leM (constM (.int 1)) (callM lenF (aconsM (varM 0) anilM)) (constM (.int 4))))) (retM (constM (.str "branches"))) nextM)
  (seqM (setM 2 (tupM (aconsM (constM (.int 0)) (aconsM (constM (.int 1)) anilM))))
  (seqM (forM (seqI (varM 0)) (gtupM 2 (gconsM (gnameM 3) (gconsM (gnameM 4) gnilM))) (seqM (ifM (tnotM (testM (callM F_is_chance (aconsM (varM 3) anilM)))) (retM (constM (.str "chance"))) nextM)
  (seqM (ifM (tnotM (testM (callM F_is_index (aconsM (varM 4) (aconsM (varM 1) anilM))))) (retM (constM (.str "point"))) nextM)
  (setM 2 (callM F_plus (aconsM (varM 2) (aconsM (varM 3) anilM)))))))
  (retM (iteM (btestM (binM eqM (varM 2) (tupM (aconsM (constM (.int 1)) (aconsM (constM (.int 1)) anilM))))) (constM .non) (constM (.str "sum")))))))
noncomputable def F_draw_problem : MF := defM 5 M_draw_problem
noncomputable def M_points_problem : MS := (seqM (ifM (testM (callM allF (aconsM (lcM (seqI (varM 0)) [2] (gnameM 2) yesM (callM F_is_index (aconsM (varM 2) (aconsM (varM 1) anilM)))) anilM))) (retM (constM .non)) nextM)
  (retM (constM (.str "point"))))
noncomputable def F_points_problem : MF := defM 3 M_points_problem
noncomputable def M_point_problem : MS := (seqM (setM 3 (callM lenF (aconsM (binM ixM (varM 1) (constM (.int 1))) anilM)))
  (seqM (ifM (tnotM (testM (callM F_has_form (aconsM (varM 2) anilM)))) (retM (constM (.str "form"))) nextM)
  (seqM (setM 4 (binM ixM (varM 2) (constM (.int 0))))
  (seqM (ifM (btestM (binM eqM (varM 4) (constM (.str "exit")))) (retM (iteM (testM (callM F_is_index (aconsM (binM ixM (varM 2) (constM (.int 1))) (aconsM (binM ixM (varM 1) (constM (.int 0))) anilM)))) (constM .non) (constM (.str "exit")))) nextM)
  (seqM (ifM (btestM (binM eqM (varM 4) (constM (.str "draw")))) (retM (callM F_draw_problem (aconsM (binM ixM (varM 2) (constM (.int 1))) (aconsM (varM 3) anilM)))) nextM)
  (seqM (ifM (btestM (binM eqM (varM 4) (constM (.str "choose")))) (retM (iteM (btestM (chainM leM leM (constM (.int 1)) (callM lenF (aconsM (binM ixM (varM 2) (constM (.int 1))) anilM)) (constM (.int 4)))) (callM F_points_problem (aconsM (binM ixM (varM 2) (constM (.int 1))) (aconsM (varM 3) anilM))) (constM (.str "branches")))) nextM)
  (seqM (ifM (btestM (binM eqM (varM 4) (constM (.str "call")))) (seqM (ifM (tnotM (testM (callM F_is_index (aconsM (binM ixM (varM 2) (constM (.int 1))) (aconsM (callM lenF (aconsM (varM 0) anilM)) anilM))))) (retM (constM (.str "procedure"))) nextM)
  (seqM (ifM (btestM (binM neM (callM lenF (aconsM (binM ixM (varM 2) (constM (.int 2))) anilM)) (binM ixM (binM ixM (varM 0) (binM ixM (varM 2) (constM (.int 1)))) (constM (.int 0))))) (retM (constM (.str "branches"))) nextM)
  (retM (callM F_points_problem (aconsM (binM ixM (varM 2) (constM (.int 2))) (aconsM (varM 3) anilM)))))) nextM)
  (seqM (ifM (btestM (binM eqM (varM 4) (constM (.str "reward")))) (retM (iteM (testM (callM F_is_amount (aconsM (binM ixM (varM 2) (constM (.int 1))) anilM))) (callM F_points_problem (aconsM (tupM (aconsM (binM ixM (varM 2) (constM (.int 2))) anilM)) (aconsM (varM 3) anilM))) (constM (.str "amount")))) nextM)
  (retM (constM .non))))))))))
noncomputable def F_point_problem : MF := defM 5 M_point_problem
noncomputable def M_check_procedure : MS := (seqM (ifM (torM (tnotM (testM (isiM "tuple" (varM 1)))) (btestM (binM neM (callM lenF (aconsM (varM 1) anilM)) (constM (.int 2))))) (raiseM "BadGraph" ["where", "why"] (aconsM (tupM (aconsM (varM 0) anilM)) (aconsM (constM (.str "form")) anilM))) nextM)
  (seqM (ifM (torM (tnotM (testM (callM F_is_integer (aconsM (binM ixM (varM 1) (constM (.int 0))) anilM)))) (tnotM (testM (isiM "tuple" (binM ixM (varM 1) (constM (.int 1))))))) (raiseM "BadGraph" ["where", "why"] (aconsM (tupM (aconsM (varM 0) anilM)) (aconsM (constM (.str "form")) anilM))) nextM)
  (seqM (ifM (tnotM (btestM (chainM leM leM (constM (.int 0)) (binM ixM (varM 1) (constM (.int 0))) (constM (.int 3))))) (raiseM "BadGraph" ["where", "why"] (aconsM (tupM (aconsM (varM 0) anilM)) (aconsM (constM (.str "exits")) anilM))) nextM)
  (ifM (tnotM (btestM (chainM leM leM (constM (.int 1)) (callM lenF (aconsM (binM ixM (varM 1) (constM (.int 1))) anilM)) (constM (.int 16))))) (raiseM "BadGraph" ["where", "why"] (aconsM (tupM (aconsM (varM 0) anilM)) (aconsM (constM (.str "points")) anilM))) nextM))))
noncomputable def F_check_procedure : MF := defM 2 M_check_procedure
noncomputable def M_check_procedures : MS := (seqM (ifM (tnotM (testM (isiM "tuple" (varM 0)))) (raiseM "BadGraph" ["where", "why"] (aconsM (tupM anilM) (aconsM (constM (.str "form")) anilM))) nextM)
  (seqM (ifM (tnotM (btestM (chainM leM leM (constM (.int 1)) (callM lenF (aconsM (varM 0) anilM)) (constM (.int 6))))) (raiseM "BadGraph" ["where", "why"] (aconsM (tupM anilM) (aconsM (constM (.str "many")) anilM))) nextM)
  (seqM (forM (enumI (oneM (aconsM (varM 0) anilM))) (gtupM 2 (gconsM (gnameM 1) (gconsM (gnameM 2) gnilM))) (exprM (callM F_check_procedure (aconsM (varM 1) (aconsM (varM 2) anilM)))))
  (seqM (ifM (btestM (binM gtM (callM sumF (aconsM (lcM (seqI (varM 0)) [2] (gnameM 2) yesM (callM lenF (aconsM (binM ixM (varM 2) (constM (.int 1))) anilM))) anilM)) (constM (.int 40)))) (raiseM "BadGraph" ["where", "why"] (aconsM (tupM anilM) (aconsM (constM (.str "many")) anilM))) nextM)
  (forM (enumI (oneM (aconsM (varM 0) anilM))) (gtupM 2 (gconsM (gnameM 1) (gconsM (gnameM 2) gnilM))) (forM (enumI (oneM (aconsM (binM ixM (varM 2) (constM (.int 1))) anilM))) (gtupM 2 (gconsM (gnameM 3) (gconsM (gnameM 4) gnilM))) (seqM (setM 5 (callM F_point_problem (aconsM (varM 0) (aconsM (varM 2) (aconsM (varM 4) anilM)))))
  (ifM (btestM (binM (isM true) (varM 5) (constM .non))) (raiseM "BadGraph" ["where", "why"] (aconsM (tupM (aconsM (varM 1) (aconsM (varM 3) anilM))) (aconsM (varM 5) anilM))) nextM))))))))
noncomputable def F_check_procedures : MF := defM 6 M_check_procedures
noncomputable def M_check_graph : MS := (ifM (tnotM (testM (isoM (kit1 "Graph") "Graph" (varM 0)))) (raiseM "BadValue" ["name"] (aconsM (constM (.str "graph")) anilM)) nextM)
noncomputable def F_check_graph : MF := defM 1 M_check_graph
noncomputable def M_Graph_init : MS := (seqM (exprM (callM F_check_procedures (aconsM (varM 1) anilM)))
  (ostM (okF ["Graph"] "procedures") "procedures" (varM 0) (varM 1)))
noncomputable def F_Graph_init : MF := defM 2 M_Graph_init
noncomputable def M_Graph_is_place : MS := (seqM (ifM (torM (tnotM (testM (isiM "tuple" (varM 1)))) (torM (btestM (binM neM (callM lenF (aconsM (varM 1) anilM)) (constM (.int 2)))) (tnotM (testM (callM F_is_index (aconsM (binM ixM (varM 1) (constM (.int 0))) (aconsM (callM lenF (aconsM (fldM (okF ["Graph"] "procedures") "procedures" (varM 0)) anilM)) anilM))))))) (retM (constM (.bl false))) nextM)
  (retM (callM F_is_index (aconsM (binM ixM (varM 1) (constM (.int 1))) (aconsM (callM lenF (aconsM (binM ixM (binM ixM (fldM (okF ["Graph"] "procedures") "procedures" (varM 0)) (binM ixM (varM 1) (constM (.int 0)))) (constM (.int 1))) anilM)) anilM)))))
noncomputable def F_Graph_is_place : MF := defM 2 M_Graph_is_place
noncomputable def M_rejecting : MS := (seqM (exprM (callM F_check_graph (aconsM (varM 0) anilM)))
  (seqM (ifM (torM (tnotM (testM (isiM "list" (varM 1)))) (tnotM (testM (callM allF (aconsM (lcM (seqI (varM 1)) [9] (gnameM 9) yesM (omM "Graph" "is_place" F_Graph_is_place (varM 0) (aconsM (varM 9) anilM))) anilM))))) (raiseM "BadValue" ["name"] (aconsM (constM (.str "places")) anilM)) nextM)
  (seqM (setM 2 (lstM anilM))
  (seqM (forM (enumI (oneM (aconsM (fldM (okF ["Graph"] "procedures") "procedures" (varM 0)) anilM))) (gtupM 2 (gconsM (gnameM 3) (gconsM (gtupM 2 (gconsM (gnameM 5) (gconsM (gnameM 6) gnilM))) gnilM))) (seqM (setM 4 (lcM (enumI (oneM (aconsM (varM 6) anilM))) [7, 8] (gtupM 2 (gconsM (gnameM 7) (gconsM (gnameM 8) gnilM))) yesM (iteM (btestM (binM (inM false) (tupM (aconsM (varM 3) (aconsM (varM 7) anilM))) (varM 1))) (tupM (aconsM (constM (.str "reject")) anilM)) (varM 8))))
  (exprM (methM appendF (varM 2) (aconsM (tupM (aconsM (varM 5) (aconsM (callM tupleF (aconsM (varM 4) anilM)) anilM))) anilM)))))
  (retM (mkM "Graph" F_Graph_init (aconsM (callM tupleF (aconsM (varM 2) anilM)) anilM)))))))
noncomputable def F_rejecting : MF := defM 10 M_rejecting
noncomputable def M__law_gcd_2 : MS := (seqM (setM 0 (callM absF (aconsM (varM 0) anilM)))
  (seqM (setM 1 (callM absF (aconsM (varM 1) anilM)))
  (seqM (forM (rngI1 (aconsM (constM (.int 2000)) anilM)) (gnameM 2) (seqM (ifM (btestM (binM eqM (varM 1) (constM (.int 0)))) brkM nextM)
  (seqM (setM 3 (binM modM (callM intF (aconsM (varM 0) anilM)) (varM 1)))
  (seqM (setM 0 (varM 1))
  (setM 1 (varM 3))))))
  (retM (varM 0)))))
noncomputable def F__law_gcd_2 : MF := defM 4 M__law_gcd_2
noncomputable def M__law_ratio_2 : MS := (seqM (setM 2 (callM F__law_gcd_2 (aconsM (varM 0) (aconsM (varM 1) anilM))))
  (retM (tupM (aconsM (binM fdivM (varM 0) (varM 2)) (aconsM (binM fdivM (varM 1) (varM 2)) anilM)))))
noncomputable def F__law_ratio_2 : MF := defM 3 M__law_ratio_2
noncomputable def M__law_plus_2 : MS := (retM (callM F__law_ratio_2 (aconsM (binM addM (binM mulM (binM ixM (varM 0) (constM (.int 0))) (binM ixM (varM 1) (constM (.int 1)))) (binM mulM (binM ixM (varM 1) (constM (.int 0))) (binM ixM (varM 0) (constM (.int 1))))) (aconsM (binM mulM (binM ixM (varM 0) (constM (.int 1))) (binM ixM (varM 1) (constM (.int 1)))) anilM))))
noncomputable def F__law_plus_2 : MF := defM 2 M__law_plus_2
noncomputable def M__law_times_2 : MS := (retM (callM F__law_ratio_2 (aconsM (binM mulM (binM ixM (varM 0) (constM (.int 0))) (binM ixM (varM 1) (constM (.int 0)))) (aconsM (binM mulM (binM ixM (varM 0) (constM (.int 1))) (binM ixM (varM 1) (constM (.int 1)))) anilM))))
noncomputable def F__law_times_2 : MF := defM 2 M__law_times_2
noncomputable def M__law_less : MS := (retM (binM ltM (binM mulM (binM ixM (varM 0) (constM (.int 0))) (binM ixM (varM 1) (constM (.int 1)))) (binM mulM (binM ixM (varM 1) (constM (.int 0))) (binM ixM (varM 0) (constM (.int 1))))))
noncomputable def F__law_less : MF := defM 2 M__law_less
noncomputable def M__law_sum : MS := (seqM (setM 1 (tupM (aconsM (constM (.int 0)) (aconsM (constM (.int 1)) anilM))))
  (seqM (forM (seqI (varM 0)) (gnameM 2) (setM 1 (callM F__law_plus_2 (aconsM (varM 1) (aconsM (varM 2) anilM)))))
  (retM (varM 1))))
noncomputable def F__law_sum : MF := defM 3 M__law_sum
noncomputable def M__law_branches : MS := (seqM (setM 2 (binM addM (constM (.int 1)) (callM F__law_next (aconsM (varM 0) (aconsM (constM (.int 3)) anilM)))))
  (seqM (ifM (btestM (binM eqM (callM F__law_next (aconsM (varM 0) (aconsM (constM (.int 8)) anilM))) (constM (.int 1)))) (setM 2 (constM (.int 4))) nextM)
  (seqM (setM 3 (lcM (rngI1 (aconsM (varM 2) anilM)) [4] (gnameM 4) yesM (constM (.int 1))))
  (seqM (forM (rngI1 (aconsM (callM F__law_next (aconsM (varM 0) (aconsM (constM (.int 6)) anilM))) anilM)) (gnameM 4) (seqM (setM 6 (callM F__law_next (aconsM (varM 0) (aconsM (varM 2) anilM))))
  (putM setL (varM 3) (varM 6) (binM addM (binM ixM (varM 3) (varM 6)) (constM (.int 1))))))
  (seqM (setM 5 (callM sumF (aconsM (varM 3) anilM)))
  (retM (callM tupleF (aconsM (lcM (seqI (varM 3)) [7] (gnameM 7) yesM (tupM (aconsM (callM F__law_ratio_2 (aconsM (varM 7) (aconsM (varM 5) anilM))) (aconsM (callM F__law_next (aconsM (varM 0) (aconsM (varM 1) anilM))) anilM)))) anilM))))))))
noncomputable def F__law_branches : MF := defM 8 M__law_branches
noncomputable def M__law_end : MS := (seqM (setM 2 (callM F__law_next (aconsM (varM 0) (aconsM (constM (.int 6)) anilM))))
  (seqM (ifM (tandM (btestM (binM gtM (varM 1) (constM (.int 0)))) (btestM (binM ltM (varM 2) (constM (.int 4))))) (retM (tupM (aconsM (constM (.str "exit")) (aconsM (callM F__law_next (aconsM (varM 0) (aconsM (varM 1) anilM))) anilM)))) nextM)
  (retM (binM ixM (lstM (aconsM (tupM (aconsM (constM (.str "reject")) anilM)) (aconsM (tupM (aconsM (constM (.str "stop")) anilM)) anilM))) (binM bandM (varM 2) (constM (.int 1)))))))
noncomputable def F__law_end : MF := defM 3 M__law_end
noncomputable def M__law_point : MS := (seqM (setM 5 (callM F__law_next (aconsM (varM 0) (aconsM (constM (.int 10)) anilM))))
  (seqM (ifM (btestM (binM ltM (varM 5) (constM (.int 2)))) (retM (callM F__law_end (aconsM (varM 0) (aconsM (varM 1) anilM)))) nextM)
  (seqM (ifM (btestM (binM eqM (varM 5) (constM (.int 2)))) (retM (tupM (aconsM (constM (.str "reward")) (aconsM (callM F__law_ratio_2 (aconsM (callM F__law_next (aconsM (varM 0) (aconsM (constM (.int 12)) anilM))) (aconsM (binM addM (constM (.int 1)) (callM F__law_next (aconsM (varM 0) (aconsM (constM (.int 4)) anilM)))) anilM))) (aconsM (callM F__law_next (aconsM (varM 0) (aconsM (varM 2) anilM))) anilM))))) nextM)
  (seqM (ifM (tandM (btestM (binM ltM (varM 5) (constM (.int 5)))) (testM (varM 3))) (seqM (asgM (gtupM 2 (gconsM (gnameM 6) (gconsM (gnameM 7) gnilM))) (binM ixM (varM 3) (callM F__law_next (aconsM (varM 0) (aconsM (callM lenF (aconsM (varM 3) anilM)) anilM)))))
  (retM (tupM (aconsM (constM (.str "call")) (aconsM (varM 6) (aconsM (callM tupleF (aconsM (lcM (rngI1 (aconsM (varM 7) anilM)) [8] (gnameM 8) yesM (callM F__law_next (aconsM (varM 0) (aconsM (varM 2) anilM)))) anilM)) anilM)))))) nextM)
  (seqM (ifM (tandM (btestM (binM ltM (varM 5) (constM (.int 8)))) (testM (varM 4))) (retM (tupM (aconsM (constM (.str "choose")) (aconsM (callM tupleF (aconsM (lcM (rngI1 (aconsM (binM addM (constM (.int 1)) (callM F__law_next (aconsM (varM 0) (aconsM (constM (.int 4)) anilM)))) anilM)) [8] (gnameM 8) yesM (callM F__law_next (aconsM (varM 0) (aconsM (varM 2) anilM)))) anilM)) anilM)))) nextM)
  (retM (tupM (aconsM (constM (.str "draw")) (aconsM (callM F__law_branches (aconsM (varM 0) (aconsM (varM 2) anilM))) anilM)))))))))
noncomputable def F__law_point : MF := defM 9 M__law_point
noncomputable def M__law_procedure : MS := (seqM (setM 5 (lcM (rngI1 (aconsM (binM subM (varM 2) (constM (.int 1))) anilM)) [6] (gnameM 6) yesM (callM F__law_point (aconsM (varM 0) (aconsM (varM 1) (aconsM (varM 2) (aconsM (varM 3) (aconsM (varM 4) anilM))))))))
  (seqM (exprM (methM appendF (varM 5) (aconsM (callM F__law_end (aconsM (varM 0) (aconsM (varM 1) anilM))) anilM)))
  (retM (tupM (aconsM (varM 1) (aconsM (callM tupleF (aconsM (varM 5) anilM)) anilM))))))
noncomputable def F__law_procedure : MF := defM 7 M__law_procedure
noncomputable def M__law_procedures : MS := (seqM (setM 3 (lstM anilM))
  (seqM (forM (rngI1 (aconsM (binM addM (constM (.int 1)) (callM F__law_next (aconsM (varM 0) (aconsM (constM (.int 3)) anilM)))) anilM)) (gnameM 4) (exprM (methM appendF (varM 3) (aconsM (tupM (aconsM (callM F__law_next (aconsM (varM 0) (aconsM (constM (.int 3)) anilM))) (aconsM (binM addM (constM (.int 1)) (callM F__law_next (aconsM (varM 0) (aconsM (constM (.int 5)) anilM)))) anilM))) anilM))))
  (seqM (setM 5 (lstM anilM))
  (seqM (forM (rngI1 (aconsM (callM lenF (aconsM (varM 3) anilM)) anilM)) (gnameM 4) (seqM (setM 6 (lstM anilM))
  (seqM (forM (rngI1 (aconsM (callM lenF (aconsM (varM 3) anilM)) anilM)) (gnameM 7) (ifM (torM (testM (varM 2)) (btestM (binM gtM (varM 7) (varM 4)))) (exprM (methM appendF (varM 6) (aconsM (tupM (aconsM (varM 7) (aconsM (binM ixM (binM ixM (varM 3) (varM 7)) (constM (.int 0))) anilM))) anilM))) nextM))
  (exprM (methM appendF (varM 5) (aconsM (callM F__law_procedure (aconsM (varM 0) (aconsM (binM ixM (binM ixM (varM 3) (varM 4)) (constM (.int 0))) (aconsM (binM ixM (binM ixM (varM 3) (varM 4)) (constM (.int 1))) (aconsM (varM 6) (aconsM (varM 1) anilM)))))) anilM))))))
  (retM (callM tupleF (aconsM (varM 5) anilM)))))))
noncomputable def F__law_procedures : MF := defM 8 M__law_procedures
noncomputable def M__law_place : MS := (seqM (setM 2 (callM F__law_next (aconsM (varM 0) (aconsM (callM lenF (aconsM (varM 1) anilM)) anilM))))
  (retM (tupM (aconsM (varM 2) (aconsM (callM F__law_next (aconsM (varM 0) (aconsM (callM lenF (aconsM (binM ixM (binM ixM (varM 1) (varM 2)) (constM (.int 1))) anilM)) anilM))) anilM)))))
noncomputable def F__law_place : MF := defM 3 M__law_place
noncomputable def M_Graph_places : MS := (retM (lc2M (enumI (oneM (aconsM (fldM (okF ["Graph"] "procedures") "procedures" (varM 0)) anilM))) [2, 3, 1] (gtupM 2 (gconsM (gnameM 2) (gconsM (gnameM 3) gnilM))) yesM (rngI1 (aconsM (callM lenF (aconsM (binM ixM (varM 3) (constM (.int 1))) anilM)) anilM)) [1] (gnameM 1) yesM (tupM (aconsM (varM 2) (aconsM (varM 1) anilM)))))
noncomputable def F_Graph_places : MF := defM 4 M_Graph_places
noncomputable def M_points_of : MS := (seqM (ifM (btestM (binM eqM (binM ixM (varM 0) (constM (.int 0))) (constM (.str "draw")))) (retM (callM tupleF (aconsM (lcM (seqI (binM ixM (varM 0) (constM (.int 1)))) [1] (gnameM 1) yesM (binM ixM (varM 1) (constM (.int 1)))) anilM))) nextM)
  (seqM (ifM (btestM (binM eqM (binM ixM (varM 0) (constM (.int 0))) (constM (.str "choose")))) (retM (binM ixM (varM 0) (constM (.int 1)))) nextM)
  (seqM (ifM (btestM (binM (inM false) (binM ixM (varM 0) (constM (.int 0))) (tupM (aconsM (constM (.str "call")) (aconsM (constM (.str "reward")) anilM))))) (retM (iteM (btestM (binM eqM (binM ixM (varM 0) (constM (.int 0))) (constM (.str "call")))) (binM ixM (varM 0) (constM (.int 2))) (tupM (aconsM (binM ixM (varM 0) (constM (.int 2))) anilM)))) nextM)
  (retM (tupM anilM)))))
noncomputable def F_points_of : MF := defM 2 M_points_of
noncomputable def M_check_place : MS := (seqM (exprM (callM F_check_graph (aconsM (varM 0) anilM)))
  (ifM (tnotM (testM (omM "Graph" "is_place" F_Graph_is_place (varM 0) (aconsM (varM 1) anilM)))) (raiseM "BadValue" ["name"] (aconsM (constM (.str "place")) anilM)) nextM))
noncomputable def F_check_place : MF := defM 2 M_check_place
noncomputable def M_exits_of : MS := (retM (binM ixM (binM ixM (fldM (okF ["Graph"] "procedures") "procedures" (varM 0)) (binM ixM (varM 1) (constM (.int 0)))) (constM (.int 0))))
noncomputable def F_exits_of : MF := defM 2 M_exits_of
noncomputable def M_check_way : MS := (ifM (torM (tnotM (testM (callM F_is_integer (aconsM (varM 2) anilM)))) (tnotM (btestM (chainM leM ltM (constM (.int 0)) (varM 2) (binM addM (callM F_exits_of (aconsM (varM 0) (aconsM (varM 1) anilM))) (constM (.int 2))))))) (raiseM "BadValue" ["name"] (aconsM (constM (.str "way")) anilM)) nextM)
noncomputable def F_check_way : MF := defM 3 M_check_way
noncomputable def M_check_depth : MS := (ifM (torM (tnotM (testM (callM F_is_integer (aconsM (varM 0) anilM)))) (tnotM (btestM (chainM leM leM (constM (.int 0)) (varM 0) (constM (.int 40)))))) (raiseM "BadValue" ["name"] (aconsM (constM (.str "depth")) anilM)) nextM)
noncomputable def F_check_depth : MF := defM 1 M_check_depth
noncomputable def M_Graph_is_chain : MS := (seqM (forM (seqI (fldM (okF ["Graph"] "procedures") "procedures" (varM 0))) (gtupM 2 (gconsM (gnameM 1) (gconsM (gnameM 2) gnilM))) (forM (seqI (varM 2)) (gnameM 3) (ifM (btestM (binM eqM (binM ixM (varM 3) (constM (.int 0))) (constM (.str "choose")))) (retM (constM (.bl false))) nextM)))
  (retM (constM (.bl true))))
noncomputable def F_Graph_is_chain : MF := defM 4 M_Graph_is_chain
noncomputable def M_check_chain : MS := (seqM (exprM (callM F_check_graph (aconsM (varM 0) anilM)))
  (ifM (tnotM (testM (omM "Graph" "is_chain" F_Graph_is_chain (varM 0) anilM))) (raiseM "NotTold" ["reason"] (aconsM (tupM (aconsM (constM (.str "choices")) anilM)) anilM)) nextM))
noncomputable def F_check_chain : MF := defM 1 M_check_chain
noncomputable def M_Graph_check_place : MS := (ifM (tnotM (testM (omM "Graph" "is_place" F_Graph_is_place (varM 0) (aconsM (varM 1) anilM)))) (raiseM "BadValue" ["name"] (aconsM (constM (.str "place")) anilM)) nextM)
noncomputable def F_Graph_check_place : MF := defM 2 M_Graph_check_place
noncomputable def M_Graph_point_at : MS := (seqM (exprM (omM "Graph" "check_place" F_Graph_check_place (varM 0) (aconsM (varM 1) anilM)))
  (retM (binM ixM (binM ixM (binM ixM (fldM (okF ["Graph"] "procedures") "procedures" (varM 0)) (binM ixM (varM 1) (constM (.int 0)))) (constM (.int 1))) (binM ixM (varM 1) (constM (.int 1))))))
noncomputable def F_Graph_point_at : MF := defM 2 M_Graph_point_at
noncomputable def M_ended_way : MS := (seqM (setM 2 (omM "Graph" "point_at" F_Graph_point_at (varM 0) (aconsM (varM 1) anilM)))
  (seqM (ifM (btestM (binM eqM (binM ixM (varM 2) (constM (.int 0))) (constM (.str "exit")))) (retM (binM ixM (varM 2) (constM (.int 1)))) nextM)
  (seqM (ifM (btestM (binM eqM (binM ixM (varM 2) (constM (.int 0))) (constM (.str "reject")))) (retM (callM F_exits_of (aconsM (varM 0) (aconsM (varM 1) anilM)))) nextM)
  (seqM (ifM (btestM (binM eqM (binM ixM (varM 2) (constM (.int 0))) (constM (.str "stop")))) (retM (binM addM (callM F_exits_of (aconsM (varM 0) (aconsM (varM 1) anilM))) (constM (.int 1)))) nextM)
  (retM (constM .non))))))
noncomputable def F_ended_way : MF := defM 3 M_ended_way
noncomputable def M__law_is_rational_2 : MS := (seqM (ifM (torM (tnotM (testM (isiM "tuple" (varM 0)))) (torM (btestM (binM neM (callM lenF (aconsM (varM 0) anilM)) (constM (.int 2)))) (torM (tnotM (testM (callM F__law_is_integer (aconsM (binM ixM (varM 0) (constM (.int 0))) anilM)))) (tnotM (testM (callM F__law_is_integer (aconsM (binM ixM (varM 0) (constM (.int 1))) anilM))))))) (retM (constM (.bl false))) nextM)
  (retM (andM (binM gtM (binM ixM (varM 0) (constM (.int 1))) (constM (.int 0))) (binM eqM (callM F__law_gcd_2 (aconsM (binM ixM (varM 0) (constM (.int 0))) (aconsM (binM ixM (varM 0) (constM (.int 1))) anilM))) (constM (.int 1))))))
noncomputable def F__law_is_rational_2 : MF := defM 1 M__law_is_rational_2
noncomputable def M_Graph_named : MS := (seqM (setM 2 (omM "Graph" "point_at" F_Graph_point_at (varM 0) (aconsM (varM 1) anilM)))
  (seqM (setM 3 (lcM (seqI (callM F_points_of (aconsM (varM 2) anilM))) [4] (gnameM 4) yesM (tupM (aconsM (binM ixM (varM 1) (constM (.int 0))) (aconsM (varM 4) anilM)))))
  (seqM (ifM (btestM (binM eqM (binM ixM (varM 2) (constM (.int 0))) (constM (.str "call")))) (exprM (methM appendF (varM 3) (aconsM (tupM (aconsM (binM ixM (varM 2) (constM (.int 1))) (aconsM (constM (.int 0)) anilM))) anilM))) nextM)
  (retM (lcM (seqI (omM "Graph" "places" F_Graph_places (varM 0) anilM)) [5] (gnameM 5) (btestM (binM (inM false) (varM 5) (varM 3))) (varM 5))))))
noncomputable def F_Graph_named : MF := defM 6 M_Graph_named
noncomputable def M_Graph_reached : MS := (seqM (exprM (omM "Graph" "check_place" F_Graph_check_place (varM 0) (aconsM (varM 1) anilM)))
  (seqM (setM 2 (lstM (aconsM (varM 1) anilM)))
  (seqM (setM 3 (constM (.int 0)))
  (seqM (whileM (btestM (binM ltM (varM 3) (callM lenF (aconsM (varM 2) anilM)))) (seqM (exprM (methM extendF (varM 2) (aconsM (lcM (seqI (omM "Graph" "named" F_Graph_named (varM 0) (aconsM (binM ixM (varM 2) (varM 3)) anilM))) [4] (gnameM 4) (btestM (binM (inM true) (varM 4) (varM 2))) (varM 4)) anilM)))
  (setM 3 (binM addM (varM 3) (constM (.int 1))))) LOOP)
  (retM (callM sortedF (aconsM (varM 2) anilM)))))))
noncomputable def F_Graph_reached : MF := defM 5 M_Graph_reached
noncomputable def M_Lengths_chance_of_call : MS := (seqM (asgM (gtupM 3 (gconsM (gnameM 7) (gconsM (gnameM 8) (gconsM (gnameM 9) gnilM)))) (omM "Graph" "point_at" F_Graph_point_at (fldM (okF ["Lengths"] "graph") "graph" (varM 0)) (aconsM (varM 1) anilM)))
  (seqM (setM 4 (binM ixM (fldM (okF ["Lengths"] "rows") "rows" (varM 0)) (tupM (aconsM (varM 8) (aconsM (constM (.int 0)) anilM)))))
  (seqM (setM 5 (constM (.tup [(.int 0), (.int 1)])))
  (seqM (forM (enumI (oneM (aconsM (varM 9) anilM))) (gtupM 2 (gconsM (gnameM 10) (gconsM (gnameM 11) gnilM))) (seqM (setM 12 (binM ixM (binM ixM (fldM (okF ["Lengths"] "rows") "rows" (varM 0)) (tupM (aconsM (binM ixM (varM 1) (constM (.int 0))) (aconsM (varM 11) anilM)))) (varM 2)))
  (forM (rngI1 (aconsM (binM subM (varM 3) (constM (.int 1))) anilM)) (gnameM 13) (ifM (btestM (binM neM (binM ixM (binM ixM (varM 4) (varM 10)) (varM 13)) (constM (.tup [(.int 0), (.int 1)])))) (setM 5 (callM F_plus (aconsM (varM 5) (aconsM (callM F_times (aconsM (binM ixM (binM ixM (varM 4) (varM 10)) (varM 13)) (aconsM (binM ixM (varM 12) (binM subM (binM subM (varM 3) (constM (.int 2))) (varM 13))) anilM))) anilM)))) nextM))))
  (seqM (setM 6 (binM subM (varM 2) (callM F_exits_of (aconsM (fldM (okF ["Lengths"] "graph") "graph" (varM 0)) (aconsM (varM 1) anilM)))))
  (seqM (ifM (btestM (binM geM (varM 6) (constM (.int 0)))) (setM 5 (callM F_plus (aconsM (varM 5) (aconsM (binM ixM (binM ixM (varM 4) (binM addM (callM lenF (aconsM (varM 9) anilM)) (varM 6))) (binM subM (varM 3) (constM (.int 1)))) anilM)))) nextM)
  (retM (varM 5))))))))
noncomputable def F_Lengths_chance_of_call : MF := defM 14 M_Lengths_chance_of_call
noncomputable def M_Lengths_chance_of : MS := (seqM (setM 4 (omM "Graph" "point_at" F_Graph_point_at (fldM (okF ["Lengths"] "graph") "graph" (varM 0)) (aconsM (varM 1) anilM)))
  (seqM (ifM (btestM (binM (inM false) (binM ixM (varM 4) (constM (.int 0))) (tupM (aconsM (constM (.str "exit")) (aconsM (constM (.str "reject")) (aconsM (constM (.str "stop")) anilM)))))) (retM (iteM (tandM (btestM (binM eqM (varM 3) (constM (.int 0)))) (btestM (binM eqM (callM F_ended_way (aconsM (fldM (okF ["Lengths"] "graph") "graph" (varM 0)) (aconsM (varM 1) anilM))) (varM 2)))) (constM (.tup [(.int 1), (.int 1)])) (constM (.tup [(.int 0), (.int 1)])))) nextM)
  (seqM (ifM (btestM (binM eqM (varM 3) (constM (.int 0)))) (retM (constM (.tup [(.int 0), (.int 1)]))) nextM)
  (seqM (ifM (btestM (binM eqM (binM ixM (varM 4) (constM (.int 0))) (constM (.str "draw")))) (seqM (setM 5 (constM (.tup [(.int 0), (.int 1)])))
  (seqM (forM (seqI (binM ixM (varM 4) (constM (.int 1)))) (gtupM 2 (gconsM (gnameM 6) (gconsM (gnameM 7) gnilM))) (setM 5 (callM F_plus (aconsM (varM 5) (aconsM (callM F_times (aconsM (varM 6) (aconsM (binM ixM (binM ixM (binM ixM (fldM (okF ["Lengths"] "rows") "rows" (varM 0)) (tupM (aconsM (binM ixM (varM 1) (constM (.int 0))) (aconsM (varM 7) anilM)))) (varM 2)) (binM subM (varM 3) (constM (.int 1)))) anilM))) anilM)))))
  (retM (varM 5)))) nextM)
  (seqM (ifM (btestM (binM eqM (binM ixM (varM 4) (constM (.int 0))) (constM (.str "reward")))) (retM (binM ixM (binM ixM (binM ixM (fldM (okF ["Lengths"] "rows") "rows" (varM 0)) (tupM (aconsM (binM ixM (varM 1) (constM (.int 0))) (aconsM (binM ixM (varM 4) (constM (.int 2))) anilM)))) (varM 2)) (binM subM (varM 3) (constM (.int 1))))) nextM)
  (retM (omM "Lengths" "chance_of_call" F_Lengths_chance_of_call (varM 0) (aconsM (varM 1) (aconsM (varM 2) (aconsM (varM 3) anilM))))))))))
noncomputable def F_Lengths_chance_of : MF := defM 8 M_Lengths_chance_of
noncomputable def M_Lengths_add_length : MS := (forM (seqI (fldM (okF ["Lengths"] "places") "places" (varM 0))) (gnameM 2) (forM (rngI1 (aconsM (callM lenF (aconsM (binM ixM (fldM (okF ["Lengths"] "rows") "rows" (varM 0)) (varM 2)) anilM)) anilM)) (gnameM 3) (exprM (methM appendF (binM ixM (binM ixM (fldM (okF ["Lengths"] "rows") "rows" (varM 0)) (varM 2)) (varM 3)) (aconsM (omM "Lengths" "chance_of" F_Lengths_chance_of (varM 0) (aconsM (varM 2) (aconsM (varM 3) (aconsM (varM 1) anilM)))) anilM)))))
noncomputable def F_Lengths_add_length : MF := defM 4 M_Lengths_add_length
noncomputable def M_sum_of : MS := (seqM (setM 1 (constM (.tup [(.int 0), (.int 1)])))
  (seqM (forM (seqI (varM 0)) (gnameM 2) (setM 1 (callM F_plus (aconsM (varM 1) (aconsM (varM 2) anilM)))))
  (retM (varM 1))))
noncomputable def F_sum_of : MF := defM 3 M_sum_of
noncomputable def M__law_top : MS := (seqM (asgM (gtupM 2 (gconsM (gnameM 2) (gconsM (gnameM 3) gnilM))) (binM ixM (varM 1) (negM (constM (.int 1)))))
  (retM (binM ixM (binM ixM (binM ixM (varM 0) (varM 2)) (constM (.int 1))) (varM 3))))
noncomputable def F__law_top : MF := defM 4 M__law_top
noncomputable def M__law_state : MS := (seqM (setM 2 (binM ixM (callM F__law_top (aconsM (varM 0) (aconsM (varM 1) anilM))) (constM (.int 0))))
  (seqM (ifM (tandM (btestM (binM eqM (varM 2) (constM (.str "exit")))) (btestM (binM eqM (callM lenF (aconsM (varM 1) anilM)) (constM (.int 1))))) (retM (constM (.str "finished"))) nextM)
  (seqM (ifM (btestM (binM eqM (varM 2) (constM (.str "reject")))) (retM (constM (.str "rejected"))) nextM)
  (seqM (ifM (btestM (binM eqM (varM 2) (constM (.str "stop")))) (retM (constM (.str "stopped"))) nextM)
  (retM (constM (.str "running")))))))
noncomputable def F__law_state : MF := defM 3 M__law_state
noncomputable def M__law_moved : MS := (retM (binM addM (slM (varM 0) noneO (someO (negM (constM (.int 1))))) (tupM (aconsM (tupM (aconsM (binM ixM (binM ixM (varM 0) (negM (constM (.int 1)))) (constM (.int 0))) (aconsM (varM 1) anilM))) anilM))))
noncomputable def F__law_moved : MF := defM 2 M__law_moved
noncomputable def M__law_steps : MS := (seqM (setM 2 (callM F__law_top (aconsM (varM 0) (aconsM (varM 1) anilM))))
  (seqM (ifM (btestM (binM eqM (binM ixM (varM 2) (constM (.int 0))) (constM (.str "draw")))) (retM (lcM (seqI (binM ixM (varM 2) (constM (.int 1)))) [5, 4] (gtupM 2 (gconsM (gnameM 5) (gconsM (gnameM 4) gnilM))) yesM (tupM (aconsM (varM 5) (aconsM (callM F__law_moved (aconsM (varM 1) (aconsM (varM 4) anilM))) anilM))))) nextM)
  (seqM (ifM (btestM (binM eqM (binM ixM (varM 2) (constM (.int 0))) (constM (.str "choose")))) (retM (lcM (seqI (binM ixM (varM 2) (constM (.int 1)))) [4] (gnameM 4) yesM (tupM (aconsM (tupM (aconsM (constM (.int 1)) (aconsM (constM (.int 1)) anilM))) (aconsM (callM F__law_moved (aconsM (varM 1) (aconsM (varM 4) anilM))) anilM))))) nextM)
  (seqM (ifM (btestM (binM eqM (binM ixM (varM 2) (constM (.int 0))) (constM (.str "reward")))) (retM (lstM (aconsM (tupM (aconsM (tupM (aconsM (constM (.int 1)) (aconsM (constM (.int 1)) anilM))) (aconsM (callM F__law_moved (aconsM (varM 1) (aconsM (binM ixM (varM 2) (constM (.int 2))) anilM))) anilM))) anilM))) nextM)
  (seqM (ifM (btestM (binM eqM (binM ixM (varM 2) (constM (.int 0))) (constM (.str "call")))) (retM (lstM (aconsM (tupM (aconsM (tupM (aconsM (constM (.int 1)) (aconsM (constM (.int 1)) anilM))) (aconsM (binM addM (varM 1) (tupM (aconsM (tupM (aconsM (binM ixM (varM 2) (constM (.int 1))) (aconsM (constM (.int 0)) anilM))) anilM))) anilM))) anilM))) nextM)
  (seqM (setM 3 (slM (varM 1) noneO (someO (negM (constM (.int 1))))))
  (retM (lstM (aconsM (tupM (aconsM (tupM (aconsM (constM (.int 1)) (aconsM (constM (.int 1)) anilM))) (aconsM (callM F__law_moved (aconsM (varM 3) (aconsM (binM ixM (binM ixM (callM F__law_top (aconsM (varM 0) (aconsM (varM 3) anilM))) (constM (.int 2))) (binM ixM (varM 2) (constM (.int 1)))) anilM))) anilM))) anilM)))))))))
noncomputable def F__law_steps : MF := defM 6 M__law_steps
noncomputable def M__law_way : MS := (seqM (setM 2 (callM F__law_state (aconsM (varM 0) (aconsM (varM 1) anilM))))
  (seqM (setM 3 (binM ixM (binM ixM (varM 0) (binM ixM (binM ixM (varM 1) (constM (.int 0))) (constM (.int 0)))) (constM (.int 0))))
  (seqM (ifM (btestM (binM eqM (varM 2) (constM (.str "finished")))) (retM (binM ixM (callM F__law_top (aconsM (varM 0) (aconsM (varM 1) anilM))) (constM (.int 1)))) nextM)
  (retM (binM addM (varM 3) (callM intF (aconsM (binM eqM (varM 2) (constM (.str "stopped"))) anilM)))))))
noncomputable def F__law_way : MF := defM 4 M__law_way
noncomputable def M_is_tape : MS := (seqM (ifM (torM (tnotM (testM (isiM "tuple" (varM 0)))) (btestM (binM gtM (callM lenF (aconsM (varM 0) anilM)) (constM (.int 60))))) (retM (constM (.bl false))) nextM)
  (retM (callM allF (aconsM (lcM (seqI (varM 0)) [1] (gnameM 1) yesM (andM (callM F_is_integer (aconsM (varM 1) anilM)) (chainM leM ltM (constM (.int 0)) (varM 1) (constM (.int 4))))) anilM))))
noncomputable def F_is_tape : MF := defM 2 M_is_tape
noncomputable def M__law_followed : MS := (seqM (setM 4 (tupM (aconsM (varM 2) anilM)))
  (seqM (setM 5 (lstM anilM))
  (seqM (setM 6 (tupM (aconsM (constM (.int 1)) (aconsM (constM (.int 1)) anilM))))
  (seqM (setM 7 (tupM (aconsM (constM (.int 0)) (aconsM (constM (.int 1)) anilM))))
  (seqM (setM 8 (constM (.int 0)))
  (seqM (forM (rngI1 (aconsM (constM (.int 401)) anilM)) (gnameM 9) (seqM (setM 10 (callM F__law_top (aconsM (varM 1) (aconsM (varM 4) anilM))))
  (seqM (setM 11 (andM (binM (inM false) (binM ixM (varM 10) (constM (.int 0))) (lstM (aconsM (constM (.str "draw")) (aconsM (constM (.str "choose")) anilM)))) (binM eqM (callM lenF (aconsM (varM 5) anilM)) (varM 3))))
  (seqM (ifM (torM (btestM (binM neM (callM F__law_state (aconsM (varM 1) (aconsM (varM 4) anilM))) (constM (.str "running")))) (torM (testM (varM 11)) (btestM (binM eqM (varM 8) (constM (.int 400)))))) brkM nextM)
  (seqM (setM 12 (callM F__law_steps (aconsM (varM 1) (aconsM (varM 4) anilM))))
  (seqM (setM 13 (constM (.int 0)))
  (seqM (ifM (btestM (binM (inM false) (binM ixM (varM 10) (constM (.int 0))) (lstM (aconsM (constM (.str "draw")) (aconsM (constM (.str "choose")) anilM))))) (seqM (setM 13 (callM F__law_next (aconsM (varM 0) (aconsM (callM lenF (aconsM (varM 12) anilM)) anilM))))
  (exprM (methM appendF (varM 5) (aconsM (varM 13) anilM)))) nextM)
  (seqM (ifM (btestM (binM eqM (binM ixM (varM 10) (constM (.int 0))) (constM (.str "reward")))) (setM 7 (callM F__law_plus_2 (aconsM (varM 7) (aconsM (binM ixM (varM 10) (constM (.int 1))) anilM)))) nextM)
  (seqM (setM 6 (callM F__law_times_2 (aconsM (varM 6) (aconsM (binM ixM (binM ixM (varM 12) (varM 13)) (constM (.int 0))) anilM))))
  (seqM (setM 4 (binM ixM (binM ixM (varM 12) (varM 13)) (constM (.int 1))))
  (setM 8 (binM addM (varM 8) (constM (.int 1))))))))))))))
  (retM (lstM (aconsM (varM 4) (aconsM (varM 5) (aconsM (varM 6) (aconsM (varM 7) (aconsM (varM 8) anilM)))))))))))))
noncomputable def F__law_followed : MF := defM 14 M__law_followed
noncomputable def M_Run_init : MS := (seqM (ostM (okF ["Run"] "graph") "graph" (varM 0) (varM 1))
  (seqM (ostM (okF ["Run"] "tape") "tape" (varM 0) (varM 3))
  (seqM (ostM (okF ["Run"] "places") "places" (varM 0) (lstM (aconsM (varM 2) anilM)))
  (seqM (ostM (okF ["Run"] "steps") "steps" (varM 0) (constM (.int 0)))
  (seqM (ostM (okF ["Run"] "used") "used" (varM 0) (constM (.int 0)))
  (seqM (ostM (okF ["Run"] "chance") "chance" (varM 0) (constM (.tup [(.int 1), (.int 1)])))
  (ostM (okF ["Run"] "reward") "reward" (varM 0) (constM (.tup [(.int 0), (.int 1)])))))))))
noncomputable def F_Run_init : MF := defM 4 M_Run_init
noncomputable def M_Run_point : MS := (seqM (asgM (gtupM 2 (gconsM (gnameM 1) (gconsM (gnameM 2) gnilM))) (binM ixM (fldM (okF ["Run"] "places") "places" (varM 0)) (negM (constM (.int 1)))))
  (retM (binM ixM (binM ixM (binM ixM (fldM (okF ["Graph"] "procedures") "procedures" (fldM (okF ["Run"] "graph") "graph" (varM 0))) (varM 1)) (constM (.int 1))) (varM 2))))
noncomputable def F_Run_point : MF := defM 3 M_Run_point
noncomputable def M_Run_state : MS := (seqM (setM 1 (binM ixM (omM "Run" "point" F_Run_point (varM 0) anilM) (constM (.int 0))))
  (seqM (ifM (tandM (btestM (binM eqM (varM 1) (constM (.str "exit")))) (btestM (binM eqM (callM lenF (aconsM (fldM (okF ["Run"] "places") "places" (varM 0)) anilM)) (constM (.int 1))))) (retM (constM (.str "finished"))) nextM)
  (seqM (ifM (btestM (binM eqM (varM 1) (constM (.str "reject")))) (retM (constM (.str "rejected"))) nextM)
  (seqM (ifM (btestM (binM eqM (varM 1) (constM (.str "stop")))) (retM (constM (.str "stopped"))) nextM)
  (seqM (ifM (tandM (btestM (binM (inM false) (varM 1) (tupM (aconsM (constM (.str "draw")) (aconsM (constM (.str "choose")) anilM))))) (btestM (binM eqM (fldM (okF ["Run"] "used") "used" (varM 0)) (callM lenF (aconsM (fldM (okF ["Run"] "tape") "tape" (varM 0)) anilM))))) (retM (constM (.str "waiting"))) nextM)
  (retM (constM (.str "running"))))))))
noncomputable def F_Run_state : MF := defM 2 M_Run_state
noncomputable def M_Run_go_to : MS := (putM setL (fldM (okF ["Run"] "places") "places" (varM 0)) (negM (constM (.int 1))) (tupM (aconsM (binM ixM (binM ixM (fldM (okF ["Run"] "places") "places" (varM 0)) (negM (constM (.int 1)))) (constM (.int 0))) (aconsM (varM 1) anilM))))
noncomputable def F_Run_go_to : MF := defM 2 M_Run_go_to
noncomputable def M_Run_next_of_tape : MS := (seqM (setM 2 (binM ixM (fldM (okF ["Run"] "tape") "tape" (varM 0)) (fldM (okF ["Run"] "used") "used" (varM 0))))
  (seqM (ifM (btestM (binM geM (varM 2) (varM 1))) (raiseM "BadValue" ["name"] (aconsM (constM (.str "tape")) anilM)) nextM)
  (seqM (ostM (okF ["Run"] "used") "used" (varM 0) (binM addM (fldM (okF ["Run"] "used") "used" (varM 0)) (constM (.int 1))))
  (retM (varM 2)))))
noncomputable def F_Run_next_of_tape : MF := defM 3 M_Run_next_of_tape
noncomputable def M__law_chances : MS := (seqM (setM 2 (lstM anilM))
  (seqM (setM 3 (constM (.int 60)))
  (seqM (forM (rngI1 (aconsM (binM subM (varM 1) (constM (.int 1))) anilM)) (gnameM 4) (seqM (setM 5 (binM addM (constM (.int 1)) (callM F__law_next (aconsM (varM 0) (aconsM (binM addM (binM addM (binM subM (varM 3) (varM 1)) (constM (.int 1))) (varM 4)) anilM)))))
  (seqM (exprM (methM appendF (varM 2) (aconsM (callM F__law_low (aconsM (varM 5) (aconsM (constM (.int 60)) anilM))) anilM)))
  (setM 3 (binM subM (varM 3) (varM 5))))))
  (retM (binM addM (varM 2) (lstM (aconsM (callM F__law_low (aconsM (varM 3) (aconsM (constM (.int 60)) anilM))) anilM)))))))
noncomputable def F__law_chances : MF := defM 6 M__law_chances
noncomputable def M__law_any_point : MS := (seqM (setM 5 (binM ixM (varM 2) (varM 3)))
  (seqM (setM 6 (callM F__law_next (aconsM (varM 0) (aconsM (constM (.int 8)) anilM))))
  (seqM (ifM (btestM (binM ltM (varM 6) (constM (.int 2)))) (seqM (setM 7 (callM F__law_chances (aconsM (varM 0) (aconsM (binM addM (constM (.int 1)) (callM F__law_next (aconsM (varM 0) (aconsM (constM (.int 4)) anilM)))) anilM))))
  (retM (tupM (aconsM (constM (.str "draw")) (aconsM (callM tupleF (aconsM (lcM (seqI (varM 7)) [10] (gnameM 10) yesM (tupM (aconsM (varM 10) (aconsM (callM F__law_next (aconsM (varM 0) (aconsM (varM 5) anilM))) anilM)))) anilM)) anilM))))) nextM)
  (seqM (ifM (tandM (btestM (binM eqM (varM 6) (constM (.int 2)))) (testM (varM 4))) (retM (tupM (aconsM (constM (.str "choose")) (aconsM (callM tupleF (aconsM (lcM (rngI1 (aconsM (binM addM (constM (.int 1)) (callM F__law_next (aconsM (varM 0) (aconsM (constM (.int 4)) anilM)))) anilM)) [11] (gnameM 11) yesM (callM F__law_next (aconsM (varM 0) (aconsM (varM 5) anilM)))) anilM)) anilM)))) nextM)
  (seqM (ifM (btestM (binM ltM (varM 6) (constM (.int 5)))) (seqM (setM 8 (callM F__law_next (aconsM (varM 0) (aconsM (callM lenF (aconsM (varM 1) anilM)) anilM))))
  (retM (tupM (aconsM (constM (.str "call")) (aconsM (varM 8) (aconsM (callM tupleF (aconsM (lcM (rngI1 (aconsM (binM ixM (varM 1) (varM 8)) anilM)) [11] (gnameM 11) yesM (callM F__law_next (aconsM (varM 0) (aconsM (varM 5) anilM)))) anilM)) anilM)))))) nextM)
  (seqM (ifM (tandM (btestM (binM eqM (varM 6) (constM (.int 5)))) (btestM (binM gtM (binM ixM (varM 1) (varM 3)) (constM (.int 0))))) (retM (tupM (aconsM (constM (.str "exit")) (aconsM (callM F__law_next (aconsM (varM 0) (aconsM (binM ixM (varM 1) (varM 3)) anilM))) anilM)))) nextM)
  (seqM (ifM (btestM (binM eqM (varM 6) (constM (.int 6)))) (seqM (setM 9 (callM F__law_low (aconsM (callM F__law_next (aconsM (varM 0) (aconsM (constM (.int 1001)) anilM))) (aconsM (binM addM (constM (.int 1)) (callM F__law_next (aconsM (varM 0) (aconsM (constM (.int 12)) anilM)))) anilM))))
  (retM (tupM (aconsM (constM (.str "reward")) (aconsM (varM 9) (aconsM (callM F__law_next (aconsM (varM 0) (aconsM (varM 5) anilM))) anilM)))))) nextM)
  (retM (binM ixM (lstM (aconsM (tupM (aconsM (constM (.str "reject")) anilM)) (aconsM (tupM (aconsM (constM (.str "stop")) anilM)) anilM))) (callM F__law_next (aconsM (varM 0) (aconsM (constM (.int 2)) anilM))))))))))))
noncomputable def F__law_any_point : MF := defM 12 M__law_any_point
noncomputable def M__law_any : MS := (seqM (setM 4 (lcM (rngI1 (aconsM (binM addM (constM (.int 1)) (callM F__law_next (aconsM (varM 0) (aconsM (varM 1) anilM)))) anilM)) [9] (gnameM 9) yesM (callM F__law_next (aconsM (varM 0) (aconsM (constM (.int 4)) anilM)))))
  (seqM (setM 5 (lcM (seqI (varM 4)) [10] (gnameM 10) yesM (binM addM (constM (.int 1)) (callM F__law_next (aconsM (varM 0) (aconsM (varM 2) anilM))))))
  (seqM (setM 6 (lstM anilM))
  (seqM (forM (rngI1 (aconsM (callM lenF (aconsM (varM 4) anilM)) anilM)) (gnameM 7) (seqM (setM 8 (lcM (rngI1 (aconsM (binM ixM (varM 5) (varM 7)) anilM)) [11] (gnameM 11) yesM (callM F__law_any_point (aconsM (varM 0) (aconsM (varM 4) (aconsM (varM 5) (aconsM (varM 7) (aconsM (varM 3) anilM))))))))
  (exprM (methM appendF (varM 6) (aconsM (tupM (aconsM (binM ixM (varM 4) (varM 7)) (aconsM (callM tupleF (aconsM (varM 8) anilM)) anilM))) anilM)))))
  (retM (callM tupleF (aconsM (varM 6) anilM)))))))
noncomputable def F__law_any : MF := defM 12 M__law_any
noncomputable def M__law_places : MS := (seqM (setM 1 (lstM anilM))
  (seqM (forM (rngI1 (aconsM (callM lenF (aconsM (varM 0) anilM)) anilM)) (gnameM 2) (forM (rngI1 (aconsM (callM lenF (aconsM (binM ixM (binM ixM (varM 0) (varM 2)) (constM (.int 1))) anilM)) anilM)) (gnameM 3) (exprM (methM appendF (varM 1) (aconsM (tupM (aconsM (varM 2) (aconsM (varM 3) anilM))) anilM)))))
  (retM (varM 1))))
noncomputable def F__law_places : MF := defM 4 M__law_places
noncomputable def M__law_points : MS := (seqM (ifM (btestM (binM eqM (binM ixM (varM 0) (constM (.int 0))) (constM (.str "draw")))) (retM (lcM (seqI (binM ixM (varM 0) (constM (.int 1)))) [1, 2] (gtupM 2 (gconsM (gnameM 1) (gconsM (gnameM 2) gnilM))) yesM (varM 2))) nextM)
  (seqM (ifM (btestM (binM eqM (binM ixM (varM 0) (constM (.int 0))) (constM (.str "choose")))) (retM (callM listF (aconsM (binM ixM (varM 0) (constM (.int 1))) anilM))) nextM)
  (seqM (ifM (btestM (binM eqM (binM ixM (varM 0) (constM (.int 0))) (constM (.str "call")))) (retM (callM listF (aconsM (binM ixM (varM 0) (constM (.int 2))) anilM))) nextM)
  (seqM (ifM (btestM (binM eqM (binM ixM (varM 0) (constM (.int 0))) (constM (.str "reward")))) (retM (lstM (aconsM (binM ixM (varM 0) (constM (.int 2))) anilM))) nextM)
  (retM (lstM anilM))))))
noncomputable def F__law_points : MF := defM 3 M__law_points
noncomputable def M__law_named : MS := (seqM (setM 2 (binM ixM (binM ixM (binM ixM (varM 0) (binM ixM (varM 1) (constM (.int 0)))) (constM (.int 1))) (binM ixM (varM 1) (constM (.int 1)))))
  (seqM (setM 3 (lcM (seqI (callM F__law_points (aconsM (varM 2) anilM))) [4] (gnameM 4) yesM (tupM (aconsM (binM ixM (varM 1) (constM (.int 0))) (aconsM (varM 4) anilM)))))
  (seqM (ifM (btestM (binM eqM (binM ixM (varM 2) (constM (.int 0))) (constM (.str "call")))) (exprM (methM appendF (varM 3) (aconsM (tupM (aconsM (binM ixM (varM 2) (constM (.int 1))) (aconsM (constM (.int 0)) anilM))) anilM))) nextM)
  (retM (lcM (seqI (callM F__law_places (aconsM (varM 0) anilM))) [5] (gnameM 5) (btestM (binM (inM false) (varM 5) (varM 3))) (varM 5))))))
noncomputable def F__law_named : MF := defM 6 M__law_named
noncomputable def M__law_reached : MS := (seqM (setM 2 (lstM (aconsM (varM 1) anilM)))
  (seqM (forM (rngI1 (aconsM (constM (.int 41)) anilM)) (gnameM 3) (ifM (btestM (binM ltM (varM 3) (callM lenF (aconsM (varM 2) anilM)))) (exprM (methM extendF (varM 2) (aconsM (lcM (seqI (callM F__law_named (aconsM (varM 0) (aconsM (binM ixM (varM 2) (varM 3)) anilM)))) [4] (gnameM 4) (btestM (binM (inM true) (varM 4) (varM 2))) (varM 4)) anilM))) nextM))
  (retM (callM sortedF (aconsM (varM 2) anilM)))))
noncomputable def F__law_reached : MF := defM 5 M__law_reached
noncomputable def M_moved : MS := (seqM (setM 3 (binM ixM (varM 0) (constM (.int 0))))
  (seqM (ifM (btestM (binM eqM (varM 3) (constM (.str "draw")))) (retM (tupM (aconsM (varM 3) (aconsM (callM tupleF (aconsM (lcM (seqI (binM ixM (varM 0) (constM (.int 1)))) [5, 4] (gtupM 2 (gconsM (gnameM 5) (gconsM (gnameM 4) gnilM))) yesM (tupM (aconsM (varM 5) (aconsM (binM ixM (varM 2) (varM 4)) anilM)))) anilM)) anilM)))) nextM)
  (seqM (ifM (btestM (binM eqM (varM 3) (constM (.str "choose")))) (retM (tupM (aconsM (varM 3) (aconsM (callM tupleF (aconsM (lcM (seqI (binM ixM (varM 0) (constM (.int 1)))) [4] (gnameM 4) yesM (binM ixM (varM 2) (varM 4))) anilM)) anilM)))) nextM)
  (seqM (ifM (btestM (binM eqM (varM 3) (constM (.str "call")))) (retM (tupM (aconsM (varM 3) (aconsM (binM ixM (varM 1) (binM ixM (varM 0) (constM (.int 1)))) (aconsM (callM tupleF (aconsM (lcM (seqI (binM ixM (varM 0) (constM (.int 2)))) [4] (gnameM 4) yesM (binM ixM (varM 2) (varM 4))) anilM)) anilM))))) nextM)
  (seqM (ifM (btestM (binM eqM (varM 3) (constM (.str "reward")))) (retM (tupM (aconsM (varM 3) (aconsM (binM ixM (varM 0) (constM (.int 1))) (aconsM (binM ixM (varM 2) (binM ixM (varM 0) (constM (.int 2)))) anilM))))) nextM)
  (retM (varM 0)))))))
noncomputable def F_moved : MF := defM 6 M_moved
noncomputable def M_old_place : MS := (seqM (setM 3 (binM ixM (varM 0) (binM ixM (varM 2) (constM (.int 0)))))
  (retM (tupM (aconsM (varM 3) (aconsM (binM ixM (binM ixM (varM 1) (varM 3)) (binM ixM (varM 2) (constM (.int 1)))) anilM)))))
noncomputable def F_old_place : MF := defM 4 M_old_place
noncomputable def M_check_chain_2 : MS := (seqM (ifM (tnotM (testM (isoM (kit1 "Graph") "Graph" (varM 0)))) (raiseM "BadValue" ["name"] (aconsM (constM (.str "graph")) anilM)) nextM)
  (ifM (tnotM (testM (omM "Graph" "is_chain" F_Graph_is_chain (varM 0) anilM))) (raiseM "NotTold" ["reason"] (aconsM (tupM (aconsM (constM (.str "choices")) anilM)) anilM)) nextM))
noncomputable def F_check_chain_2 : MF := defM 1 M_check_chain_2
noncomputable def M_is_unknown : MS := (seqM (ifM (torM (tnotM (testM (isiM "tuple" (varM 1)))) (torM (btestM (binM neM (callM lenF (aconsM (varM 1) anilM)) (constM (.int 3)))) (tnotM (testM (omM "Graph" "is_place" F_Graph_is_place (varM 0) (aconsM (slM (varM 1) noneO (someO (constM (.int 2)))) anilM)))))) (retM (constM (.bl false))) nextM)
  (seqM (setM 2 (binM ixM (varM 1) (constM (.int 2))))
  (retM (andM (isiM "int" (varM 2)) (andM (notM (isiM "bool" (varM 2))) (chainM leM ltM (constM (.int 0)) (varM 2) (binM addM (binM ixM (binM ixM (fldM (okF ["Graph"] "procedures") "procedures" (varM 0)) (binM ixM (varM 1) (constM (.int 0)))) (constM (.int 0))) (constM (.int 2)))))))))
noncomputable def F_is_unknown : MF := defM 3 M_is_unknown
noncomputable def M_check_unknown : MS := (seqM (exprM (callM F_check_chain_2 (aconsM (varM 0) anilM)))
  (ifM (tnotM (testM (callM F_is_unknown (aconsM (varM 0) (aconsM (varM 1) anilM))))) (raiseM "BadValue" ["name"] (aconsM (constM (.str "unknown")) anilM)) nextM))
noncomputable def F_check_unknown : MF := defM 2 M_check_unknown
noncomputable def M_call_terms : MS := (seqM (asgM (gtupM 3 (gconsM (gnameM 6) (gconsM (gnameM 7) (gconsM (gnameM 8) gnilM)))) (varM 1))
  (seqM (setM 3 (binM ixM (varM 2) (constM (.int 1))))
  (seqM (setM 4 (lstM anilM))
  (seqM (forM (enumI (oneM (aconsM (binM ixM (varM 2) (constM (.int 2))) anilM))) (gtupM 2 (gconsM (gnameM 9) (gconsM (gnameM 10) gnilM))) (exprM (methM appendF (varM 4) (aconsM (tupM (aconsM (constM (.tup [(.int 1), (.int 1)])) (aconsM (tupM (aconsM (tupM (aconsM (varM 3) (aconsM (constM (.int 0)) (aconsM (varM 9) anilM)))) (aconsM (tupM (aconsM (varM 6) (aconsM (varM 10) (aconsM (varM 8) anilM)))) anilM))) anilM))) anilM))))
  (seqM (setM 5 (binM subM (varM 8) (binM ixM (binM ixM (fldM (okF ["Graph"] "procedures") "procedures" (varM 0)) (varM 6)) (constM (.int 0)))))
  (seqM (ifM (btestM (binM geM (varM 5) (constM (.int 0)))) (exprM (methM appendF (varM 4) (aconsM (tupM (aconsM (constM (.tup [(.int 1), (.int 1)])) (aconsM (tupM (aconsM (tupM (aconsM (varM 3) (aconsM (constM (.int 0)) (aconsM (binM addM (binM ixM (binM ixM (fldM (okF ["Graph"] "procedures") "procedures" (varM 0)) (varM 3)) (constM (.int 0))) (varM 5)) anilM)))) anilM)) anilM))) anilM))) nextM)
  (retM (varM 4))))))))
noncomputable def F_call_terms : MF := defM 11 M_call_terms
noncomputable def M_all_terms : MS := (seqM (asgM (gtupM 3 (gconsM (gnameM 6) (gconsM (gnameM 7) (gconsM (gnameM 8) gnilM)))) (varM 1))
  (seqM (setM 2 (omM "Graph" "point_at" F_Graph_point_at (varM 0) (aconsM (slM (varM 1) noneO (someO (constM (.int 2)))) anilM)))
  (seqM (setM 3 (binM ixM (varM 2) (constM (.int 0))))
  (seqM (setM 4 (binM ixM (binM ixM (fldM (okF ["Graph"] "procedures") "procedures" (varM 0)) (varM 6)) (constM (.int 0))))
  (seqM (ifM (btestM (binM eqM (varM 3) (constM (.str "draw")))) (retM (lcM (seqI (binM ixM (varM 2) (constM (.int 1)))) [9, 10] (gtupM 2 (gconsM (gnameM 9) (gconsM (gnameM 10) gnilM))) yesM (tupM (aconsM (varM 9) (aconsM (tupM (aconsM (tupM (aconsM (varM 6) (aconsM (varM 10) (aconsM (varM 8) anilM)))) anilM)) anilM))))) nextM)
  (seqM (ifM (btestM (binM eqM (varM 3) (constM (.str "reward")))) (retM (lstM (aconsM (tupM (aconsM (constM (.tup [(.int 1), (.int 1)])) (aconsM (tupM (aconsM (tupM (aconsM (varM 6) (aconsM (binM ixM (varM 2) (constM (.int 2))) (aconsM (varM 8) anilM)))) anilM)) anilM))) anilM))) nextM)
  (seqM (ifM (btestM (binM eqM (varM 3) (constM (.str "call")))) (retM (callM F_call_terms (aconsM (varM 0) (aconsM (varM 1) (aconsM (varM 2) anilM))))) nextM)
  (seqM (setM 5 (binM addM (varM 4) (callM intF (aconsM (binM eqM (varM 3) (constM (.str "stop"))) anilM))))
  (seqM (ifM (btestM (binM eqM (varM 3) (constM (.str "exit")))) (setM 5 (binM ixM (varM 2) (constM (.int 1)))) nextM)
  (retM (iteM (btestM (binM eqM (varM 8) (varM 5))) (lstM (aconsM (tupM (aconsM (constM (.tup [(.int 1), (.int 1)])) (aconsM (tupM anilM) anilM))) anilM)) (lstM anilM))))))))))))
noncomputable def F_all_terms : MF := defM 11 M_all_terms
noncomputable def M_terms_of : MS := (seqM (exprM (callM F_check_unknown (aconsM (varM 0) (aconsM (varM 1) anilM))))
  (retM (callM F_all_terms (aconsM (varM 0) (aconsM (varM 1) anilM)))))
noncomputable def F_terms_of : MF := defM 2 M_terms_of
noncomputable def M__law_draw : MS := (seqM (setM 2 (lstM (aconsM (lstM (aconsM (tupM (aconsM (constM (.int 1)) (aconsM (constM (.int 1)) anilM))) anilM)) (aconsM (lstM (aconsM (tupM (aconsM (constM (.int 1)) (aconsM (constM (.int 2)) anilM))) (aconsM (tupM (aconsM (constM (.int 1)) (aconsM (constM (.int 2)) anilM))) anilM))) (aconsM (lstM (aconsM (tupM (aconsM (constM (.int 1)) (aconsM (constM (.int 3)) anilM))) (aconsM (tupM (aconsM (constM (.int 2)) (aconsM (constM (.int 3)) anilM))) anilM))) (aconsM (lstM (aconsM (tupM (aconsM (constM (.int 2)) (aconsM (constM (.int 3)) anilM))) (aconsM (tupM (aconsM (constM (.int 1)) (aconsM (constM (.int 3)) anilM))) anilM))) (aconsM (lstM (aconsM (tupM (aconsM (constM (.int 1)) (aconsM (constM (.int 4)) anilM))) (aconsM (tupM (aconsM (constM (.int 1)) (aconsM (constM (.int 2)) anilM))) (aconsM (tupM (aconsM (constM (.int 1)) (aconsM (constM (.int 4)) anilM))) anilM)))) (aconsM (lstM (aconsM (tupM (aconsM (constM (.int 2)) (aconsM (constM (.int 5)) anilM))) (aconsM (tupM (aconsM (constM (.int 3)) (aconsM (constM (.int 5)) anilM))) anilM))) (aconsM (lstM (aconsM (tupM (aconsM (constM (.int 1)) (aconsM (constM (.int 6)) anilM))) (aconsM (tupM (aconsM (constM (.int 5)) (aconsM (constM (.int 6)) anilM))) anilM))) (aconsM (lstM (aconsM (tupM (aconsM (constM (.int 3)) (aconsM (constM (.int 4)) anilM))) (aconsM (tupM (aconsM (constM (.int 1)) (aconsM (constM (.int 4)) anilM))) anilM))) (aconsM (lstM (aconsM (tupM (aconsM (constM (.int 1)) (aconsM (constM (.int 60)) anilM))) (aconsM (tupM (aconsM (constM (.int 19)) (aconsM (constM (.int 60)) anilM))) (aconsM (tupM (aconsM (constM (.int 2)) (aconsM (constM (.int 3)) anilM))) anilM)))) (aconsM (lstM (aconsM (tupM (aconsM (constM (.int 1)) (aconsM (constM (.int 4)) anilM))) (aconsM (tupM (aconsM (constM (.int 1)) (aconsM (constM (.int 4)) anilM))) (aconsM (tupM (aconsM (constM (.int 1)) (aconsM (constM (.int 4)) anilM))) (aconsM (tupM (aconsM (constM (.int 1)) (aconsM (constM (.int 4)) anilM))) anilM))))) anilM))))))))))))
  (retM (tupM (aconsM (constM (.str "draw")) (aconsM (callM tupleF (aconsM (lcM (seqI (binM ixM (varM 2) (callM F__law_next (aconsM (varM 0) (aconsM (constM (.int 10)) anilM))))) [3] (gnameM 3) yesM (tupM (aconsM (varM 3) (aconsM (callM F__law_next (aconsM (varM 0) (aconsM (varM 1) anilM))) anilM)))) anilM)) anilM)))))
noncomputable def F__law_draw : MF := defM 4 M__law_draw
noncomputable def M__law_point_2 : MS := (seqM (setM 4 (binM ixM (varM 2) (varM 3)))
  (seqM (setM 5 (callM F__law_next (aconsM (varM 0) (aconsM (constM (.int 12)) anilM))))
  (seqM (ifM (btestM (binM ltM (varM 5) (constM (.int 4)))) (retM (callM F__law_draw (aconsM (varM 0) (aconsM (varM 4) anilM)))) nextM)
  (seqM (ifM (btestM (binM ltM (varM 5) (constM (.int 8)))) (seqM (setM 6 (callM F__law_next (aconsM (varM 0) (aconsM (callM lenF (aconsM (varM 1) anilM)) anilM))))
  (seqM (ifM (btestM (binM eqM (callM F__law_next (aconsM (varM 0) (aconsM (constM (.int 2)) anilM))) (constM (.int 0)))) (setM 6 (varM 3)) nextM)
  (retM (tupM (aconsM (constM (.str "call")) (aconsM (varM 6) (aconsM (callM tupleF (aconsM (lcM (rngI1 (aconsM (binM ixM (varM 1) (varM 6)) anilM)) [7] (gnameM 7) yesM (callM F__law_next (aconsM (varM 0) (aconsM (varM 4) anilM)))) anilM)) anilM))))))) nextM)
  (seqM (ifM (tandM (btestM (binM ltM (varM 5) (constM (.int 10)))) (btestM (binM gtM (binM ixM (varM 1) (varM 3)) (constM (.int 0))))) (retM (tupM (aconsM (constM (.str "exit")) (aconsM (callM F__law_next (aconsM (varM 0) (aconsM (binM ixM (varM 1) (varM 3)) anilM))) anilM)))) nextM)
  (seqM (ifM (btestM (binM eqM (varM 5) (constM (.int 10)))) (retM (tupM (aconsM (constM (.str "reward")) (aconsM (callM F__law_low (aconsM (callM F__law_next (aconsM (varM 0) (aconsM (constM (.int 30)) anilM))) (aconsM (binM addM (constM (.int 1)) (callM F__law_next (aconsM (varM 0) (aconsM (constM (.int 12)) anilM)))) anilM))) (aconsM (callM F__law_next (aconsM (varM 0) (aconsM (varM 4) anilM))) anilM))))) nextM)
  (retM (binM ixM (lstM (aconsM (tupM (aconsM (constM (.str "reject")) anilM)) (aconsM (tupM (aconsM (constM (.str "stop")) anilM)) anilM))) (callM F__law_next (aconsM (varM 0) (aconsM (constM (.int 2)) anilM)))))))))))
noncomputable def F__law_point_2 : MF := defM 8 M__law_point_2
noncomputable def M__law_procedures_2 : MS := (seqM (setM 1 (lcM (rngI1 (aconsM (binM addM (constM (.int 1)) (callM F__law_next (aconsM (varM 0) (aconsM (constM (.int 2)) anilM)))) anilM)) [7] (gnameM 7) yesM (binM ixM (lstM (aconsM (constM (.int 1)) (aconsM (constM (.int 1)) (aconsM (constM (.int 2)) (aconsM (constM (.int 1)) (aconsM (constM (.int 0)) anilM)))))) (callM F__law_next (aconsM (varM 0) (aconsM (constM (.int 5)) anilM))))))
  (seqM (setM 2 (lcM (seqI (varM 1)) [8] (gnameM 8) yesM (binM addM (constM (.int 2)) (callM F__law_next (aconsM (varM 0) (aconsM (constM (.int 4)) anilM))))))
  (seqM (setM 3 (lstM anilM))
  (seqM (forM (rngI1 (aconsM (callM lenF (aconsM (varM 1) anilM)) anilM)) (gnameM 4) (seqM (setM 5 (lstM (aconsM (callM F__law_draw (aconsM (varM 0) (aconsM (binM ixM (varM 2) (varM 4)) anilM))) anilM)))
  (seqM (forM (rngI1 (aconsM (binM subM (binM ixM (varM 2) (varM 4)) (constM (.int 1))) anilM)) (gnameM 6) (exprM (methM appendF (varM 5) (aconsM (callM F__law_point_2 (aconsM (varM 0) (aconsM (varM 1) (aconsM (varM 2) (aconsM (varM 4) anilM))))) anilM))))
  (seqM (ifM (btestM (binM gtM (binM ixM (varM 1) (varM 4)) (constM (.int 0)))) (putM setL (varM 5) (binM subM (binM ixM (varM 2) (varM 4)) (constM (.int 1))) (tupM (aconsM (constM (.str "exit")) (aconsM (callM F__law_next (aconsM (varM 0) (aconsM (binM ixM (varM 1) (varM 4)) anilM))) anilM)))) nextM)
  (exprM (methM appendF (varM 3) (aconsM (tupM (aconsM (binM ixM (varM 1) (varM 4)) (aconsM (callM tupleF (aconsM (varM 5) anilM)) anilM))) anilM)))))))
  (retM (callM tupleF (aconsM (varM 3) anilM)))))))
noncomputable def F__law_procedures_2 : MF := defM 9 M__law_procedures_2
noncomputable def M__law_unknowns : MS := (seqM (setM 1 (lstM anilM))
  (seqM (forM (rngI1 (aconsM (callM lenF (aconsM (varM 0) anilM)) anilM)) (gnameM 2) (forM (rngI1 (aconsM (callM lenF (aconsM (binM ixM (binM ixM (varM 0) (varM 2)) (constM (.int 1))) anilM)) anilM)) (gnameM 3) (forM (rngI1 (aconsM (binM addM (binM ixM (binM ixM (varM 0) (varM 2)) (constM (.int 0))) (constM (.int 2))) anilM)) (gnameM 4) (exprM (methM appendF (varM 1) (aconsM (tupM (aconsM (varM 2) (aconsM (varM 3) (aconsM (varM 4) anilM)))) anilM))))))
  (retM (varM 1))))
noncomputable def F__law_unknowns : MF := defM 5 M__law_unknowns
noncomputable def M__law_terms : MS := (seqM (asgM (gtupM 3 (gconsM (gnameM 5) (gconsM (gnameM 6) (gconsM (gnameM 7) gnilM)))) (varM 1))
  (seqM (setM 2 (binM ixM (binM ixM (varM 0) (varM 5)) (constM (.int 0))))
  (seqM (setM 3 (binM ixM (binM ixM (binM ixM (varM 0) (varM 5)) (constM (.int 1))) (varM 6)))
  (seqM (ifM (btestM (binM eqM (binM ixM (varM 3) (constM (.int 0))) (constM (.str "draw")))) (retM (lcM (seqI (binM ixM (varM 3) (constM (.int 1)))) [11, 12] (gtupM 2 (gconsM (gnameM 11) (gconsM (gnameM 12) gnilM))) yesM (tupM (aconsM (varM 11) (aconsM (tupM (aconsM (tupM (aconsM (varM 5) (aconsM (varM 12) (aconsM (varM 7) anilM)))) anilM)) anilM))))) nextM)
  (seqM (ifM (btestM (binM eqM (binM ixM (varM 3) (constM (.int 0))) (constM (.str "reward")))) (retM (lstM (aconsM (tupM (aconsM (tupM (aconsM (constM (.int 1)) (aconsM (constM (.int 1)) anilM))) (aconsM (tupM (aconsM (tupM (aconsM (varM 5) (aconsM (binM ixM (varM 3) (constM (.int 2))) (aconsM (varM 7) anilM)))) anilM)) anilM))) anilM))) nextM)
  (seqM (ifM (btestM (binM eqM (binM ixM (varM 3) (constM (.int 0))) (constM (.str "call")))) (seqM (setM 8 (binM ixM (varM 3) (constM (.int 1))))
  (seqM (setM 9 (lcM (rngI1 (aconsM (binM ixM (binM ixM (varM 0) (varM 8)) (constM (.int 0))) anilM)) [10] (gnameM 10) yesM (tupM (aconsM (tupM (aconsM (constM (.int 1)) (aconsM (constM (.int 1)) anilM))) (aconsM (tupM (aconsM (tupM (aconsM (varM 8) (aconsM (constM (.int 0)) (aconsM (varM 10) anilM)))) (aconsM (tupM (aconsM (varM 5) (aconsM (binM ixM (binM ixM (varM 3) (constM (.int 2))) (varM 10)) (aconsM (varM 7) anilM)))) anilM))) anilM)))))
  (seqM (ifM (btestM (binM geM (varM 7) (varM 2))) (exprM (methM appendF (varM 9) (aconsM (tupM (aconsM (tupM (aconsM (constM (.int 1)) (aconsM (constM (.int 1)) anilM))) (aconsM (tupM (aconsM (tupM (aconsM (varM 8) (aconsM (constM (.int 0)) (aconsM (binM subM (binM addM (binM ixM (binM ixM (varM 0) (varM 8)) (constM (.int 0))) (varM 7)) (varM 2)) anilM)))) anilM)) anilM))) anilM))) nextM)
  (retM (varM 9))))) nextM)
  (seqM (setM 4 (varM 2))
  (seqM (ifM (btestM (binM eqM (binM ixM (varM 3) (constM (.int 0))) (constM (.str "exit")))) (setM 4 (binM ixM (varM 3) (constM (.int 1)))) nextM)
  (seqM (ifM (btestM (binM eqM (binM ixM (varM 3) (constM (.int 0))) (constM (.str "stop")))) (setM 4 (binM addM (varM 2) (constM (.int 1)))) nextM)
  (seqM (ifM (btestM (binM eqM (varM 7) (varM 4))) (retM (lstM (aconsM (tupM (aconsM (tupM (aconsM (constM (.int 1)) (aconsM (constM (.int 1)) anilM))) (aconsM (tupM anilM) anilM))) anilM))) nextM)
  (retM (lstM anilM))))))))))))
noncomputable def F__law_terms : MF := defM 13 M__law_terms
end Zc
/-! the mirrors -/
namespace Zl
open PySem PySem.Spec PyProof.Rows L2 Z Zc
def tab : Tab where
  free := ["abs", "all", "bool", "enumerate", "int", "isinstance", "len", "list", "range", "sorted", "str", "sum", "tuple"]
  bi := [("gcd", "math.gcd")]
  cls := (["OddsError", "BadValue", "BadGraph", "Graph", "_law_places", "_law_is_integer", "_law_equal", "points_of", "is_integer", "is_index", "_law_points", "_law_named", "_law_reached", "is_integer_rationals", "is_rational", "is_amount", "points_problem", "reduced", "plus", "is_chance", "draw_problem", "has_form", "point_problem", "check_procedure", "check_procedures", "_law_next", "_law_gcd", "_law_low", "_law_chances", "_law_any_point"] : List Str) ++ (["_law_any", "_law_stream", "law", "LENGTHS"] : List Str)
  exc := [("BadValue", ["name"]), ("BadGraph", ["where", "why"])]
  ex := [("BadValue", "OddsError", true), ("BadValue", "BadValue", true), ("BadValue", "BadGraph", false), ("BadGraph", "OddsError", true), ("BadGraph", "BadValue", false), ("BadGraph", "BadGraph", true)]
  ey := [("BadValue", "ValueError", true), ("BadGraph", "ValueError", true)]
  con := [("MOST_AMOUNT", (.int 1000)), ("MOST_AMOUNT_DENOMINATOR", (.int 12)), ("MOST_BRANCHES", (.int 4)), ("MOST_DENOMINATOR", (.int 60)), ("MOST_IN_ALL", (.int 40)), ("MOST_POINTS", (.int 16)), ("MOST_EXITS", (.int 3)), ("MOST_PROCEDURES", (.int 6))]
  ali := [("is_integer_graphs", "is_integer")]
  own := [.cls "Graph", .mkr "Graph", .noat "Graph" "procedures", .meth "Graph" "check_place", .meth "Graph" "is_place", .meth "Graph" "named", .meth "Graph" "places", .meth "Graph" "point_at", .meth "Graph" "reached"]
  icl := []
  kit := []
  kio := []
  dts := [("LENGTHS", [("exit", (.int 2)), ("draw", (.int 2)), ("choose", (.int 2)), ("call", (.int 3)), ("reward", (.int 3)), ("reject", (.int 1)), ("stop", (.int 1))])]
def subT : Str → Str → Option Bool := tab.sub
def suyT : Str → Str → Option Bool := tab.suy
def fokT : Str → Str → Bool := tab.fok
noncomputable def M_law : MS := (seqM (setM 1 (callM F__law_stream (aconsM (varM 0) anilM)))
  (seqM (setM 2 (callM F__law_any (aconsM (varM 1) (aconsM (constM (.int 4)) (aconsM (constM (.int 8)) (aconsM (binM eqM (callM F__law_next (aconsM (varM 1) (aconsM (constM (.int 2)) anilM))) (constM (.int 1))) anilM))))))
  (seqM (setM 3 (mkM "Graph" F_Graph_init (aconsM (varM 2) anilM)))
  (seqM (forM (seqI (callM F__law_places (aconsM (varM 2) anilM))) (gnameM 4) (seqM (setM 5 (lstM (aconsM (callM F__law_named (aconsM (varM 2) (aconsM (varM 4) anilM))) (aconsM (callM F__law_reached (aconsM (varM 2) (aconsM (varM 4) anilM))) anilM))))
  (forM (rngI1 (aconsM (constM (.int 2)) anilM)) (gnameM 6) (seqM (setM 7 (lstM (aconsM (omM "Graph" "named" F_Graph_named (varM 3) (aconsM (varM 4) anilM)) (aconsM (omM "Graph" "reached" F_Graph_reached (varM 3) (aconsM (varM 4) anilM)) anilM))))
  (seqM (ifM (tnotM (testM (callM F__law_equal (aconsM (varM 7) (aconsM (varM 5) anilM))))) (retM (constM (.bl false))) nextM)
  (seqM (exprM (methM appendF (binM ixM (varM 7) (constM (.int 0))) (aconsM (tupM (aconsM (constM (.int 0)) (aconsM (constM (.int 0)) anilM))) anilM)))
  (exprM (methM appendF (binM ixM (varM 7) (constM (.int 1))) (aconsM (tupM (aconsM (constM (.int 0)) (aconsM (constM (.int 0)) anilM))) anilM)))))))))
  (retM (constM (.bl true)))))))
noncomputable def F_law : MF := defM 8 M_law
end Zl
namespace Zl
open PySem PySem.Spec PyProof.Rows L2 Z Zc
def top (i : Nat) : Stmt := PySem.Challenge.pw_oddscall_k16_named_and_reached.main.body.getD i (.Pass ⟨0, 0, 0, 0⟩)
abbrev FnP (K : PySem.W.Frag) (x : Str) (st : Stmt) (f : Addr) (fd : FuncData) : Prop := FunD K x x (defArgs st) (defBody st) (defScope st) [] [] f fd
section
variable {P : Program} {w : World} {K : PySem.W.Frag} {mg : Str → Option Value} {base : Heap}
theorem sc__law_places : FnScope ["_law_procedures", "_law_found", "_law_p", "_law_i"] ["_law_procedures"] (defScope (top 46)) := ⟨rfl, rfl, rfl, by decide +kernel, rfl, by decide +kernel, by decide +kernel⟩
theorem sim__law_places {f : Addr} {fd : FuncData} (F : FnP K "_law_places" (top 46) f fd) (hm : mg "_law_places" = some (.ref f)) (T : Tx tab K mg) : FS P w K mg base "_law_places" 1 1 F__law_places := by
  refine fs_of (n := 4) (m := M__law_places) F sc__law_places rfl hm (F.bindsN fun _ _ _ _ _ _ us hl => match us, hl with | [_], _ => rfl) fun cdv A outer s H E hr => ?_
  have hu := hr.units
  have T_fok : XFs K tab.fok := T.fokE
  exact (ss_cons (st_set (i := 1) sc__law_places.nd rfl (.inl rfl) (s_lst s_anil))
  (ss_cons (st_for (passes_of rfl) rfl (si_range1 rfl (T.mn "range" (by decide)) (s_acons (s_callB c_len rfl (T.mn "len" (by decide)) (by decide +kernel) (s_acons (s_var (pv 0)) s_anil)) s_anil)) (sg_name (pg_name (i := 2) sc__law_places.nd rfl (.inl rfl))) (ss_one (st_for (passes_of rfl) rfl (si_range1 rfl (T.mn "range" (by decide)) (s_acons (s_callB c_len rfl (T.mn "len" (by decide)) (by decide +kernel) (s_acons (s_ix (s_ix (s_var (pv 0)) (s_var (pv 2))) s_int) s_anil)) s_anil)) (sg_name (pg_name (i := 3) sc__law_places.nd rfl (.inl rfl))) (ss_one (st_expr (s_meth PySem.F.slot_list_append PySem.F.type_list_append m_append (s_var (pv 1)) (s_acons (s_tup (s_acons (s_var (pv 2)) (s_acons (s_var (pv 3)) s_anil))) s_anil)))))))
  (ss_one (st_ret (s_var (pv 1))))))
theorem sc__law_is_integer : FnScope ["_law_actual"] ["_law_actual"] (defScope (top 38)) := ⟨rfl, rfl, rfl, by decide +kernel, rfl, by decide +kernel, by decide +kernel⟩
theorem sim__law_is_integer {f : Addr} {fd : FuncData} (F : FnP K "_law_is_integer" (top 38) f fd) (hm : mg "_law_is_integer" = some (.ref f)) (T : Tx tab K mg) : FS P w K mg base "_law_is_integer" 1 1 F__law_is_integer := by
  refine fs_of (n := 1) (m := M__law_is_integer) F sc__law_is_integer rfl hm (F.bindsN fun _ _ _ _ _ _ us hl => match us, hl with | [_], _ => rfl) fun cdv A outer s H E hr => ?_
  have hu := hr.units
  have T_fok : XFs K tab.fok := T.fokE
  exact (ss_one (st_ret (s_and (s_isi rfl (T.mn "isinstance" (by decide)) rfl (T.mn "int" (by decide)) (by decide +kernel) (s_var (pv 0))) (s_one (s_not (s_isi rfl (T.mn "isinstance" (by decide)) rfl (T.mn "bool" (by decide)) (by decide +kernel) (s_var (pv 0))))))))
theorem sc__law_equal : FnScope ["_law_actual", "_law_due", "_law_at"] ["_law_actual", "_law_due"] (defScope (top 41)) := ⟨rfl, rfl, rfl, by decide +kernel, rfl, by decide +kernel, by decide +kernel⟩
theorem sim__law_equal {f : Addr} {fd : FuncData} (F : FnP K "_law_equal" (top 41) f fd) (hm : mg "_law_equal" = some (.ref f)) (T : Tx tab K mg) (fs__law_is_integer : FS P w K mg base "_law_is_integer" 1 1 F__law_is_integer) : FS P w K mg base "_law_equal" 8 2 F__law_equal := by
  have hb : Binds K fd ["_law_actual", "_law_due"] [] := F.bindsN fun _ _ _ _ _ _ us hl => match us, hl with | [_, _], _ => rfl
  have q : ∀ m, FS P w K mg base "_law_equal" (2 + m) 2 (F__law_equal_r m) := fun m => by
    induction m with
    | zero => exact fs_stuck F hm hb
    | succ m fs__law_equal =>
      refine fs_of (n := 3) (m := M__law_equal (F__law_equal_r m)) F sc__law_equal rfl hm hb fun cdv A outer s H E hr => ?_
      have hr : Room (2 + m) (A.deeper (envOfC _ _ s.heap.objs.size f cdv)) := hr
      have hu := hr.units
      have T_fok : XFs K tab.fok := T.fokE
      exact (ss_cons (st_if (t_cmp o_is (s_var (pv 1)) s_non (nomark _)) (ss_one (st_ret (s_cmp o_is (s_var (pv 0)) s_non (nomark _)))) ss_nil)
  (ss_cons (st_if (t_truth (s_isi rfl (T.mn "isinstance" (by decide)) rfl (T.mn "bool" (by decide)) (by decide +kernel) (s_var (pv 1)))) (ss_one (st_ret (s_and (s_isi rfl (T.mn "isinstance" (by decide)) rfl (T.mn "bool" (by decide)) (by decide +kernel) (s_var (pv 0))) (s_one (s_cmp (o_eq hu) (s_var (pv 0)) (s_var (pv 1)) (nomark _)))))) ss_nil)
  (ss_cons (st_if (t_truth (s_isi rfl (T.mn "isinstance" (by decide)) rfl (T.mn "int" (by decide)) (by decide +kernel) (s_var (pv 1)))) (ss_one (st_ret (s_and (s_call fs__law_is_integer hr (by first | decide | omega) rfl rfl (s_acons (s_var (pv 0)) s_anil) (hml := (la_cons la_nil))) (s_one (s_cmp (o_eq hu) (s_var (pv 0)) (s_var (pv 1)) (nomark _)))))) ss_nil)
  (ss_cons (st_if (t_truth (s_isi rfl (T.mn "isinstance" (by decide)) rfl (T.mn "str" (by decide)) (by decide +kernel) (s_var (pv 1)))) (ss_one (st_ret (s_and (s_isi rfl (T.mn "isinstance" (by decide)) rfl (T.mn "str" (by decide)) (by decide +kernel) (s_var (pv 0))) (s_one (s_cmp (o_eq hu) (s_var (pv 0)) (s_var (pv 1)) (nomark _)))))) ss_nil)
  (ss_cons (st_if (t_of_w (w_and (t_truth (s_isi rfl (T.mn "isinstance" (by decide)) rfl (T.mn "tuple" (by decide)) (by decide +kernel) (s_var (pv 1)))) (w_and1 (t_not (t_truth (s_isi rfl (T.mn "isinstance" (by decide)) rfl (T.mn "tuple" (by decide)) (by decide +kernel) (s_var (pv 0)))))))) (ss_one (st_ret s_bl)) ss_nil)
  (ss_cons (st_if (t_of_w (w_and (t_truth (s_isi rfl (T.mn "isinstance" (by decide)) rfl (T.mn "list" (by decide)) (by decide +kernel) (s_var (pv 1)))) (w_and1 (t_not (t_truth (s_isi rfl (T.mn "isinstance" (by decide)) rfl (T.mn "list" (by decide)) (by decide +kernel) (s_var (pv 0)))))))) (ss_one (st_ret s_bl)) ss_nil)
  (ss_cons (st_if (t_cmp (o_ne hu) (s_callB c_len rfl (T.mn "len" (by decide)) (by decide +kernel) (s_acons (s_var (pv 0)) s_anil)) (s_callB c_len rfl (T.mn "len" (by decide)) (by decide +kernel) (s_acons (s_var (pv 1)) s_anil)) (nomark _)) (ss_one (st_ret s_bl)) ss_nil)
  (ss_one (st_ret (s_callB (c_all rfl) rfl (T.mn "all" (by decide)) (by decide +kernel) (s_acons (s_lc (own := [("_law_at", 2)]) rfl rfl sc__law_equal.nd (si_range1 rfl (T.mn "range" (by decide)) (s_acons (s_callB c_len rfl (T.mn "len" (by decide)) (by decide +kernel) (s_acons (s_var (pv 1)) s_anil)) s_anil)) (blkOk_by (N := ["_law_actual", "_law_due", "_law_at"]) (sc := defScope (top 41)) (own := [("_law_at", 2)]) (by decide +kernel)) (gf_name (fun s H C cl fp => pg_name (i := 2) sc__law_equal.nd rfl (.inl rfl)) (by decide)) tf_nil (fun s H C cl fp => (s_call fs__law_equal hr (by first | decide | omega) rfl rfl (s_acons (s_ix (s_var (pv 0)) (s_var (pv 2))) (s_acons (s_ix (s_var (pv 1)) (s_var (pv 2))) s_anil)) (hml := (la_cons (la_cons la_nil)))))) s_anil)))))))))))
  exact q 6
theorem sc_Graph_places : FnScope ["self", "i", "p", "procedure"] ["self"] (defScope (inClass (top 34) 2)) := ⟨rfl, rfl, rfl, by decide +kernel, rfl, by decide +kernel, by decide +kernel⟩
theorem sim_Graph_places {fd : FuncData} (F : FunD K "places" "Graph.places" (defArgs (inClass (top 34) 2)) (defBody (inClass (top 34) 2)) (defScope (inClass (top 34) 2)) [] [] (He.ma K (He.ga K "Graph") "places") fd) (T : Tx tab K mg) : FM P w K mg base "Graph" "places" 1 1 F_Graph_places := by
  refine fm_of (n := 4) (b := M_Graph_places) F sc_Graph_places rfl T (by simp [tab]) (by simp [tab]) (F.bindsN fun _ _ _ _ _ _ us hl => match us, hl with | [_], _ => rfl) fun cdv A outer s H E hr => ?_
  have hu := hr.units
  have T_fok : XFs K tab.fok := T.fokE
  exact (ss_one (st_ret (s_lc2 (own := [("p", 2), ("procedure", 3), ("i", 1)]) rfl (by decide) rfl sc_Graph_places.nd (si_enumA rfl (T.mn "enumerate" (by decide)) (s_acons (s_fld (T.okFE (by decide +kernel)) (s_var (pv 0))) s_anil)) (blkOk_by (N := ["self", "i", "p", "procedure"]) (sc := defScope (inClass (top 34) 2)) (own := [("p", 2), ("procedure", 3), ("i", 1)]) (by decide +kernel)) (gf_tup rfl (gsf_cons (gf_name (fun s H C cl fp => pg_name (i := 2) sc_Graph_places.nd rfl (.inl rfl)) (by decide)) (gsf_cons (gf_name (fun s H C cl fp => pg_name (i := 3) sc_Graph_places.nd rfl (.inl rfl)) (by decide)) gsf_nil))) tf_nil (fun s H C cl fp => (si_range1 rfl (T.mn "range" (by decide)) (s_acons (s_callB c_len rfl (T.mn "len" (by decide)) (by decide +kernel) (s_acons (s_ix (s_var (pv 3)) s_int) s_anil)) s_anil))) (gf_name (fun s H C cl fp => pg_name (i := 1) sc_Graph_places.nd rfl (.inl rfl)) (by decide)) tf_nil (fun s H C cl fp => (s_tup (s_acons (s_var (pv 2)) (s_acons (s_var (pv 1)) s_anil)))))))
theorem sc_points_of : FnScope ["point", "branch"] ["point"] (defScope (top 33)) := ⟨rfl, rfl, rfl, by decide +kernel, rfl, by decide +kernel, by decide +kernel⟩
theorem sim_points_of {f : Addr} {fd : FuncData} (F : FnP K "points_of" (top 33) f fd) (hm : mg "points_of" = some (.ref f)) (T : Tx tab K mg) : FS P w K mg base "points_of" 1 1 F_points_of := by
  refine fs_of (n := 2) (m := M_points_of) F sc_points_of rfl hm (F.bindsN fun _ _ _ _ _ _ us hl => match us, hl with | [_], _ => rfl) fun cdv A outer s H E hr => ?_
  have hu := hr.units
  have T_fok : XFs K tab.fok := T.fokE
  exact (ss_cons (st_if (t_cmp (o_eq hu) (s_ix (s_var (pv 0)) s_int) s_str (nomark _)) (ss_one (st_ret (s_callTy c_tuple rfl (T.mn "tuple" (by decide)) (by decide +kernel) (s_acons (s_lc (own := [("branch", 1)]) rfl rfl sc_points_of.nd (si_seq (s_ix (s_var (pv 0)) s_int)) (blkOk_by (N := ["point", "branch"]) (sc := defScope (top 33)) (own := [("branch", 1)]) (by decide +kernel)) (gf_name (fun s H C cl fp => pg_name (i := 1) sc_points_of.nd rfl (.inl rfl)) (by decide)) tf_nil (fun s H C cl fp => (s_ix (s_var (pv 1)) s_int))) s_anil)))) ss_nil)
  (ss_cons (st_if (t_cmp (o_eq hu) (s_ix (s_var (pv 0)) s_int) s_str (nomark _)) (ss_one (st_ret (s_ix (s_var (pv 0)) s_int))) ss_nil)
  (ss_cons (st_if (t_cmp (o_in (hu65 hr)) (s_ix (s_var (pv 0)) s_int) (s_tup (s_acons s_str (s_acons s_str s_anil))) (by first | rfl | with_unfolding_all rfl)) (ss_one (st_ret (s_if (t_cmp (o_eq hu) (s_ix (s_var (pv 0)) s_int) s_str (nomark _)) (s_ix (s_var (pv 0)) s_int) (s_tup (s_acons (s_ix (s_var (pv 0)) s_int) s_anil))))) ss_nil)
  (ss_one (st_ret (s_tup s_anil))))))
theorem sc_is_integer : FnScope ["value"] ["value"] (defScope (top 22)) := ⟨rfl, rfl, rfl, by decide +kernel, rfl, by decide +kernel, by decide +kernel⟩
theorem sim_is_integer {f : Addr} {fd : FuncData} (F : FnP K "is_integer" (top 22) f fd) (hm : mg "is_integer" = some (.ref f)) (T : Tx tab K mg) : FS P w K mg base "is_integer" 1 1 F_is_integer := by
  refine fs_of (n := 1) (m := M_is_integer) F sc_is_integer rfl hm (F.bindsN fun _ _ _ _ _ _ us hl => match us, hl with | [_], _ => rfl) fun cdv A outer s H E hr => ?_
  have hu := hr.units
  have T_fok : XFs K tab.fok := T.fokE
  exact (ss_one (st_ret (s_and (s_isi rfl (T.mn "isinstance" (by decide)) rfl (T.mn "int" (by decide)) (by decide +kernel) (s_var (pv 0))) (s_one (s_not (s_isi rfl (T.mn "isinstance" (by decide)) rfl (T.mn "bool" (by decide)) (by decide +kernel) (s_var (pv 0))))))))
theorem sc_is_index : FnScope ["value", "many"] ["value", "many"] (defScope (top 24)) := ⟨rfl, rfl, rfl, by decide +kernel, rfl, by decide +kernel, by decide +kernel⟩
theorem sim_is_index {f : Addr} {fd : FuncData} (F : FnP K "is_index" (top 24) f fd) (hm : mg "is_index" = some (.ref f)) (T : Tx tab K mg) (fs_is_integer : FS P w K mg base "is_integer" 1 1 F_is_integer) : FS P w K mg base "is_index" 2 2 F_is_index := by
  refine fs_of (n := 2) (m := M_is_index) F sc_is_index rfl hm (F.bindsN fun _ _ _ _ _ _ us hl => match us, hl with | [_, _], _ => rfl) fun cdv A outer s H E hr => ?_
  have hu := hr.units
  have T_fok : XFs K tab.fok := T.fokE
  exact (ss_one (st_ret (s_and (s_call (FS.ali fs_is_integer (T.mc "is_integer" (by decide)) (T.ali "is_integer_graphs" "is_integer" (by decide))) hr (by first | decide | omega) rfl rfl (s_acons (s_var (pv 0)) s_anil) (hml := (la_cons la_nil))) (s_one (s_chain o_le o_lt s_int (s_var (pv 0)) (s_var (pv 1)))))))
theorem sc_Graph_is_place : FnScope ["self", "value"] ["self", "value"] (defScope (inClass (top 34) 3)) := ⟨rfl, rfl, rfl, by decide +kernel, rfl, by decide +kernel, by decide +kernel⟩
theorem sim_Graph_is_place {fd : FuncData} (F : FunD K "is_place" "Graph.is_place" (defArgs (inClass (top 34) 3)) (defBody (inClass (top 34) 3)) (defScope (inClass (top 34) 3)) [] [] (He.ma K (He.ga K "Graph") "is_place") fd) (T : Tx tab K mg) (fs_is_index : FS P w K mg base "is_index" 2 2 F_is_index) : FM P w K mg base "Graph" "is_place" 3 2 F_Graph_is_place := by
  refine fm_of (n := 2) (b := M_Graph_is_place) F sc_Graph_is_place rfl T (by simp [tab]) (by simp [tab]) (F.bindsN fun _ _ _ _ _ _ us hl => match us, hl with | [_, _], _ => rfl) fun cdv A outer s H E hr => ?_
  have hu := hr.units
  have T_fok : XFs K tab.fok := T.fokE
  exact (ss_cons (st_if (t_of_w (w_or (t_not (t_truth (s_isi rfl (T.mn "isinstance" (by decide)) rfl (T.mn "tuple" (by decide)) (by decide +kernel) (s_var (pv 1))))) (w_or (t_cmp (o_ne hu) (s_callB c_len rfl (T.mn "len" (by decide)) (by decide +kernel) (s_acons (s_var (pv 1)) s_anil)) s_int (nomark _)) (w_or1 (t_not (t_truth (s_call fs_is_index hr (by first | decide | omega) rfl rfl (s_acons (s_ix (s_var (pv 1)) s_int) (s_acons (s_callB c_len rfl (T.mn "len" (by decide)) (by decide +kernel) (s_acons (s_fld (T.okFE (by decide +kernel)) (s_var (pv 0))) s_anil)) s_anil)) (hml := (la_cons (la_cons la_nil)))))))))) (ss_one (st_ret s_bl)) ss_nil)
  (ss_one (st_ret (s_call fs_is_index hr (by first | decide | omega) rfl rfl (s_acons (s_ix (s_var (pv 1)) s_int) (s_acons (s_callB c_len rfl (T.mn "len" (by decide)) (by decide +kernel) (s_acons (s_ix (s_ix (s_fld (T.okFE (by decide +kernel)) (s_var (pv 0))) (s_ix (s_var (pv 1)) s_int)) s_int) s_anil)) s_anil)) (hml := (la_cons (la_cons la_nil)))))))
theorem sc_Graph_check_place : FnScope ["self", "place"] ["self", "place"] (defScope (inClass (top 34) 4)) := ⟨rfl, rfl, rfl, by decide +kernel, rfl, by decide +kernel, by decide +kernel⟩
theorem sim_Graph_check_place {fd : FuncData} (F : FunD K "check_place" "Graph.check_place" (defArgs (inClass (top 34) 4)) (defBody (inClass (top 34) 4)) (defScope (inClass (top 34) 4)) [] [] (He.ma K (He.ga K "Graph") "check_place") fd) (T : Tx tab K mg) (fm_Graph_is_place : FM P w K mg base "Graph" "is_place" 3 2 F_Graph_is_place) (xc_BadValue : XC P w K mg base "BadValue" 1 ["name"]) : FM P w K mg base "Graph" "check_place" 4 2 F_Graph_check_place := by
  refine fm_of (n := 2) (b := M_Graph_check_place) F sc_Graph_check_place rfl T (by simp [tab]) (by simp [tab]) (F.bindsN fun _ _ _ _ _ _ us hl => match us, hl with | [_, _], _ => rfl) fun cdv A outer s H E hr => ?_
  have hu := hr.units
  have T_fok : XFs K tab.fok := T.fokE
  exact (ss_one (st_if (t_not (t_truth (s_om fm_Graph_is_place hr (by first | decide | omega) rfl (s_var (pv 0)) (s_acons (s_var (pv 1)) s_anil) (la_cons la_nil)))) (ss_one (st_raise rfl xc_BadValue hr (by first | decide | omega) rfl (s_acons s_str s_anil))) ss_nil))
theorem sc_Graph_point_at : FnScope ["self", "place"] ["self", "place"] (defScope (inClass (top 34) 5)) := ⟨rfl, rfl, rfl, by decide +kernel, rfl, by decide +kernel, by decide +kernel⟩
theorem sim_Graph_point_at {fd : FuncData} (F : FunD K "point_at" "Graph.point_at" (defArgs (inClass (top 34) 5)) (defBody (inClass (top 34) 5)) (defScope (inClass (top 34) 5)) [] [] (He.ma K (He.ga K "Graph") "point_at") fd) (T : Tx tab K mg) (fm_Graph_check_place : FM P w K mg base "Graph" "check_place" 4 2 F_Graph_check_place) : FM P w K mg base "Graph" "point_at" 5 2 F_Graph_point_at := by
  refine fm_of (n := 2) (b := M_Graph_point_at) F sc_Graph_point_at rfl T (by simp [tab]) (by simp [tab]) (F.bindsN fun _ _ _ _ _ _ us hl => match us, hl with | [_, _], _ => rfl) fun cdv A outer s H E hr => ?_
  have hu := hr.units
  have T_fok : XFs K tab.fok := T.fokE
  exact (ss_cons (st_expr (s_om fm_Graph_check_place hr (by first | decide | omega) rfl (s_var (pv 0)) (s_acons (s_var (pv 1)) s_anil) (la_cons la_nil)))
  (ss_one (st_ret (s_ix (s_ix (s_ix (s_fld (T.okFE (by decide +kernel)) (s_var (pv 0))) (s_ix (s_var (pv 1)) s_int)) s_int) (s_ix (s_var (pv 1)) s_int)))))
theorem sc_Graph_named : FnScope ["self", "place", "point", "found", "i", "other"] ["self", "place"] (defScope (inClass (top 34) 7)) := ⟨rfl, rfl, rfl, by decide +kernel, rfl, by decide +kernel, by decide +kernel⟩
theorem sim_Graph_named {fd : FuncData} (F : FunD K "named" "Graph.named" (defArgs (inClass (top 34) 7)) (defBody (inClass (top 34) 7)) (defScope (inClass (top 34) 7)) [] [] (He.ma K (He.ga K "Graph") "named") fd) (T : Tx tab K mg) (fm_Graph_places : FM P w K mg base "Graph" "places" 1 1 F_Graph_places) (fs_points_of : FS P w K mg base "points_of" 1 1 F_points_of) (fm_Graph_point_at : FM P w K mg base "Graph" "point_at" 5 2 F_Graph_point_at) : FM P w K mg base "Graph" "named" 6 2 F_Graph_named := by
  refine fm_of (n := 6) (b := M_Graph_named) F sc_Graph_named rfl T (by simp [tab]) (by simp [tab]) (F.bindsN fun _ _ _ _ _ _ us hl => match us, hl with | [_, _], _ => rfl) fun cdv A outer s H E hr => ?_
  have hu := hr.units
  have T_fok : XFs K tab.fok := T.fokE
  exact (ss_cons (st_set (i := 2) sc_Graph_named.nd rfl (.inl rfl) (s_om fm_Graph_point_at hr (by first | decide | omega) rfl (s_var (pv 0)) (s_acons (s_var (pv 1)) s_anil) (la_cons la_nil)))
  (ss_cons (st_set (i := 3) sc_Graph_named.nd rfl (.inr rfl) (s_lc (own := [("i", 4)]) rfl rfl sc_Graph_named.nd (si_seq (s_call fs_points_of hr (by first | decide | omega) rfl rfl (s_acons (s_var (pv 2)) s_anil) (hml := (la_cons la_nil)))) (blkOk_by (N := ["self", "place", "point", "found", "i", "other"]) (sc := defScope (inClass (top 34) 7)) (own := [("i", 4)]) (by decide +kernel)) (gf_name (fun s H C cl fp => pg_name (i := 4) sc_Graph_named.nd rfl (.inl rfl)) (by decide)) tf_nil (fun s H C cl fp => (s_tup (s_acons (s_ix (s_var (pv 1)) s_int) (s_acons (s_var (pv 4)) s_anil))))))
  (ss_cons (st_if (t_cmp (o_eq hu) (s_ix (s_var (pv 2)) s_int) s_str (nomark _)) (ss_one (st_expr (s_meth PySem.F.slot_list_append PySem.F.type_list_append m_append (s_var (pv 3)) (s_acons (s_tup (s_acons (s_ix (s_var (pv 2)) s_int) (s_acons s_int s_anil))) s_anil)))) ss_nil)
  (ss_one (st_ret (s_lc (own := [("other", 5)]) rfl rfl sc_Graph_named.nd (si_seq (s_om0 fm_Graph_places hr (by first | decide | omega) rfl (s_var (pv 0)))) (blkOk_by (N := ["self", "place", "point", "found", "i", "other"]) (sc := defScope (inClass (top 34) 7)) (own := [("other", 5)]) (by decide +kernel)) (gf_name (fun s H C cl fp => pg_name (i := 5) sc_Graph_named.nd rfl (.inl rfl)) (by decide)) (tf_one (fun s H C cl fp => (t_cmp (o_in (hu65 hr)) (s_var (pv 5)) (s_var (pv 3)) (by first | rfl | with_unfolding_all rfl)))) (fun s H C cl fp => (s_var (pv 5)))))))))
theorem sc_Graph_reached : FnScope ["self", "place", "found", "at", "other"] ["self", "place"] (defScope (inClass (top 34) 8)) := ⟨rfl, rfl, rfl, by decide +kernel, rfl, by decide +kernel, by decide +kernel⟩
theorem sim_Graph_reached {fd : FuncData} (F : FunD K "reached" "Graph.reached" (defArgs (inClass (top 34) 8)) (defBody (inClass (top 34) 8)) (defScope (inClass (top 34) 8)) [] [] (He.ma K (He.ga K "Graph") "reached") fd) (T : Tx tab K mg) (fm_Graph_named : FM P w K mg base "Graph" "named" 6 2 F_Graph_named) (fm_Graph_check_place : FM P w K mg base "Graph" "check_place" 4 2 F_Graph_check_place) : FM P w K mg base "Graph" "reached" 7 2 F_Graph_reached := by
  refine fm_of (n := 5) (b := M_Graph_reached) F sc_Graph_reached rfl T (by simp [tab]) (by simp [tab]) (F.bindsN fun _ _ _ _ _ _ us hl => match us, hl with | [_, _], _ => rfl) fun cdv A outer s H E hr => ?_
  have hu := hr.units
  have T_fok : XFs K tab.fok := T.fokE
  exact (ss_cons (st_expr (s_om fm_Graph_check_place hr (by first | decide | omega) rfl (s_var (pv 0)) (s_acons (s_var (pv 1)) s_anil) (la_cons la_nil)))
  (ss_cons (st_set (i := 2) sc_Graph_reached.nd rfl (.inr rfl) (s_lst (s_acons (s_var (pv 1)) s_anil)))
  (ss_cons (st_set (i := 3) sc_Graph_reached.nd rfl (.inl rfl) s_int)
  (ss_cons (st_while (passes_of rfl) (t_cmp o_lt (s_var (pv 3)) (s_callB c_len rfl (T.mn "len" (by decide)) (by decide +kernel) (s_acons (s_var (pv 2)) s_anil)) (nomark _)) (ss_cons (st_expr (s_meth PySem.F.slot_list_extend PySem.F.type_list_extend m_extend (s_var (pv 2)) (s_acons (s_lc (own := [("other", 4)]) rfl rfl sc_Graph_reached.nd (si_seq (s_om fm_Graph_named hr (by first | decide | omega) rfl (s_var (pv 0)) (s_acons (s_ix (s_var (pv 2)) (s_var (pv 3))) s_anil) (la_cons la_nil))) (blkOk_by (N := ["self", "place", "found", "at", "other"]) (sc := defScope (inClass (top 34) 8)) (own := [("other", 4)]) (by decide +kernel)) (gf_name (fun s H C cl fp => pg_name (i := 4) sc_Graph_reached.nd rfl (.inl rfl)) (by decide)) (tf_one (fun s H C cl fp => (t_cmp (o_notin (hu65 hr)) (s_var (pv 4)) (s_var (pv 2)) (by first | rfl | with_unfolding_all rfl)))) (fun s H C cl fp => (s_var (pv 4)))) s_anil)))
  (ss_one (st_set (i := 3) sc_Graph_reached.nd rfl (.inl rfl) (s_bin o_add (s_var (pv 3)) s_int)))))
  (ss_one (st_ret (s_callB c_sorted rfl (T.mn "sorted" (by decide)) (by decide +kernel) (s_acons (s_var (pv 2)) s_anil))))))))
theorem sc__law_points : FnScope ["_law_point", "_law_chance", "_law_to"] ["_law_point"] (defScope (top 45)) := ⟨rfl, rfl, rfl, by decide +kernel, rfl, by decide +kernel, by decide +kernel⟩
theorem sim__law_points {f : Addr} {fd : FuncData} (F : FnP K "_law_points" (top 45) f fd) (hm : mg "_law_points" = some (.ref f)) (T : Tx tab K mg) : FS P w K mg base "_law_points" 1 1 F__law_points := by
  refine fs_of (n := 3) (m := M__law_points) F sc__law_points rfl hm (F.bindsN fun _ _ _ _ _ _ us hl => match us, hl with | [_], _ => rfl) fun cdv A outer s H E hr => ?_
  have hu := hr.units
  have T_fok : XFs K tab.fok := T.fokE
  exact (ss_cons (st_if (t_cmp (o_eq hu) (s_ix (s_var (pv 0)) s_int) s_str (nomark _)) (ss_one (st_ret (s_lc (own := [("_law_chance", 1), ("_law_to", 2)]) rfl rfl sc__law_points.nd (si_seq (s_ix (s_var (pv 0)) s_int)) (blkOk_by (N := ["_law_point", "_law_chance", "_law_to"]) (sc := defScope (top 45)) (own := [("_law_chance", 1), ("_law_to", 2)]) (by decide +kernel)) (gf_tup rfl (gsf_cons (gf_name (fun s H C cl fp => pg_name (i := 1) sc__law_points.nd rfl (.inl rfl)) (by decide)) (gsf_cons (gf_name (fun s H C cl fp => pg_name (i := 2) sc__law_points.nd rfl (.inl rfl)) (by decide)) gsf_nil))) tf_nil (fun s H C cl fp => (s_var (pv 2)))))) ss_nil)
  (ss_cons (st_if (t_cmp (o_eq hu) (s_ix (s_var (pv 0)) s_int) s_str (nomark _)) (ss_one (st_ret (s_callTy c_list rfl (T.mn "list" (by decide)) (by decide +kernel) (s_acons (s_ix (s_var (pv 0)) s_int) s_anil)))) ss_nil)
  (ss_cons (st_if (t_cmp (o_eq hu) (s_ix (s_var (pv 0)) s_int) s_str (nomark _)) (ss_one (st_ret (s_callTy c_list rfl (T.mn "list" (by decide)) (by decide +kernel) (s_acons (s_ix (s_var (pv 0)) s_int) s_anil)))) ss_nil)
  (ss_cons (st_if (t_cmp (o_eq hu) (s_ix (s_var (pv 0)) s_int) s_str (nomark _)) (ss_one (st_ret (s_lst (s_acons (s_ix (s_var (pv 0)) s_int) s_anil)))) ss_nil)
  (ss_one (st_ret (s_lst s_anil)))))))
theorem sc__law_named : FnScope ["_law_procedures", "_law_place", "_law_point", "_law_found", "_law_i", "_law_other"] ["_law_procedures", "_law_place"] (defScope (top 47)) := ⟨rfl, rfl, rfl, by decide +kernel, rfl, by decide +kernel, by decide +kernel⟩
theorem sim__law_named {f : Addr} {fd : FuncData} (F : FnP K "_law_named" (top 47) f fd) (hm : mg "_law_named" = some (.ref f)) (T : Tx tab K mg) (fs__law_places : FS P w K mg base "_law_places" 1 1 F__law_places) (fs__law_points : FS P w K mg base "_law_points" 1 1 F__law_points) : FS P w K mg base "_law_named" 2 2 F__law_named := by
  refine fs_of (n := 6) (m := M__law_named) F sc__law_named rfl hm (F.bindsN fun _ _ _ _ _ _ us hl => match us, hl with | [_, _], _ => rfl) fun cdv A outer s H E hr => ?_
  have hu := hr.units
  have T_fok : XFs K tab.fok := T.fokE
  exact (ss_cons (st_set (i := 2) sc__law_named.nd rfl (.inl rfl) (s_ix (s_ix (s_ix (s_var (pv 0)) (s_ix (s_var (pv 1)) s_int)) s_int) (s_ix (s_var (pv 1)) s_int)))
  (ss_cons (st_set (i := 3) sc__law_named.nd rfl (.inr rfl) (s_lc (own := [("_law_i", 4)]) rfl rfl sc__law_named.nd (si_seq (s_call fs__law_points hr (by first | decide | omega) rfl rfl (s_acons (s_var (pv 2)) s_anil) (hml := (la_cons la_nil)))) (blkOk_by (N := ["_law_procedures", "_law_place", "_law_point", "_law_found", "_law_i", "_law_other"]) (sc := defScope (top 47)) (own := [("_law_i", 4)]) (by decide +kernel)) (gf_name (fun s H C cl fp => pg_name (i := 4) sc__law_named.nd rfl (.inl rfl)) (by decide)) tf_nil (fun s H C cl fp => (s_tup (s_acons (s_ix (s_var (pv 1)) s_int) (s_acons (s_var (pv 4)) s_anil))))))
  (ss_cons (st_if (t_cmp (o_eq hu) (s_ix (s_var (pv 2)) s_int) s_str (nomark _)) (ss_one (st_expr (s_meth PySem.F.slot_list_append PySem.F.type_list_append m_append (s_var (pv 3)) (s_acons (s_tup (s_acons (s_ix (s_var (pv 2)) s_int) (s_acons s_int s_anil))) s_anil)))) ss_nil)
  (ss_one (st_ret (s_lc (own := [("_law_other", 5)]) rfl rfl sc__law_named.nd (si_seq (s_call fs__law_places hr (by first | decide | omega) rfl rfl (s_acons (s_var (pv 0)) s_anil) (hml := (la_cons la_nil)))) (blkOk_by (N := ["_law_procedures", "_law_place", "_law_point", "_law_found", "_law_i", "_law_other"]) (sc := defScope (top 47)) (own := [("_law_other", 5)]) (by decide +kernel)) (gf_name (fun s H C cl fp => pg_name (i := 5) sc__law_named.nd rfl (.inl rfl)) (by decide)) (tf_one (fun s H C cl fp => (t_cmp (o_in (hu65 hr)) (s_var (pv 5)) (s_var (pv 3)) (by first | rfl | with_unfolding_all rfl)))) (fun s H C cl fp => (s_var (pv 5)))))))))
theorem sc__law_reached : FnScope ["_law_procedures", "_law_place", "_law_found", "_law_k", "_law_other"] ["_law_procedures", "_law_place"] (defScope (top 48)) := ⟨rfl, rfl, rfl, by decide +kernel, rfl, by decide +kernel, by decide +kernel⟩
theorem sim__law_reached {f : Addr} {fd : FuncData} (F : FnP K "_law_reached" (top 48) f fd) (hm : mg "_law_reached" = some (.ref f)) (T : Tx tab K mg) (fs__law_named : FS P w K mg base "_law_named" 2 2 F__law_named) : FS P w K mg base "_law_reached" 3 2 F__law_reached := by
  refine fs_of (n := 5) (m := M__law_reached) F sc__law_reached rfl hm (F.bindsN fun _ _ _ _ _ _ us hl => match us, hl with | [_, _], _ => rfl) fun cdv A outer s H E hr => ?_
  have hu := hr.units
  have T_fok : XFs K tab.fok := T.fokE
  exact (ss_cons (st_set (i := 2) sc__law_reached.nd rfl (.inr rfl) (s_lst (s_acons (s_var (pv 1)) s_anil)))
  (ss_cons (st_for (passes_of rfl) rfl (si_range1 rfl (T.mn "range" (by decide)) (s_acons s_int s_anil)) (sg_name (pg_name (i := 3) sc__law_reached.nd rfl (.inl rfl))) (ss_one (st_if (t_cmp o_lt (s_var (pv 3)) (s_callB c_len rfl (T.mn "len" (by decide)) (by decide +kernel) (s_acons (s_var (pv 2)) s_anil)) (nomark _)) (ss_one (st_expr (s_meth PySem.F.slot_list_extend PySem.F.type_list_extend m_extend (s_var (pv 2)) (s_acons (s_lc (own := [("_law_other", 4)]) rfl rfl sc__law_reached.nd (si_seq (s_call fs__law_named hr (by first | decide | omega) rfl rfl (s_acons (s_var (pv 0)) (s_acons (s_ix (s_var (pv 2)) (s_var (pv 3))) s_anil)) (hml := (la_cons (la_cons la_nil))))) (blkOk_by (N := ["_law_procedures", "_law_place", "_law_found", "_law_k", "_law_other"]) (sc := defScope (top 48)) (own := [("_law_other", 4)]) (by decide +kernel)) (gf_name (fun s H C cl fp => pg_name (i := 4) sc__law_reached.nd rfl (.inl rfl)) (by decide)) (tf_one (fun s H C cl fp => (t_cmp (o_notin (hu65 hr)) (s_var (pv 4)) (s_var (pv 2)) (by first | rfl | with_unfolding_all rfl)))) (fun s H C cl fp => (s_var (pv 4)))) s_anil)))) ss_nil)))
  (ss_one (st_ret (s_callB c_sorted rfl (T.mn "sorted" (by decide)) (by decide +kernel) (s_acons (s_var (pv 2)) s_anil))))))
theorem sc_is_integer_rationals : FnScope ["x"] ["x"] (defScope (top 7)) := ⟨rfl, rfl, rfl, by decide +kernel, rfl, by decide +kernel, by decide +kernel⟩
theorem sim_is_integer_rationals {f : Addr} {fd : FuncData} (F : FnP K "is_integer" (top 7) f fd) (hm : mg "is_integer_rationals" = some (.ref f)) (T : Tx tab K mg) : FS P w K mg base "is_integer_rationals" 1 1 F_is_integer := by
  refine fs_as (n := 1) (m := M_is_integer) F sc_is_integer_rationals rfl hm (F.bindsN fun _ _ _ _ _ _ us hl => match us, hl with | [_], _ => rfl) fun cdv A outer s H E hr => ?_
  have hu := hr.units
  have T_fok : XFs K tab.fok := T.fokE
  exact (ss_one (st_ret (s_and (s_isi rfl (T.mn "isinstance" (by decide)) rfl (T.mn "int" (by decide)) (by decide +kernel) (s_var (pv 0))) (s_one (s_not (s_isi rfl (T.mn "isinstance" (by decide)) rfl (T.mn "bool" (by decide)) (by decide +kernel) (s_var (pv 0))))))))
theorem sc_is_rational : FnScope ["x", "n", "d"] ["x"] (defScope (top 9)) := ⟨rfl, rfl, rfl, by decide +kernel, rfl, by decide +kernel, by decide +kernel⟩
theorem sim_is_rational {f : Addr} {fd : FuncData} (F : FnP K "is_rational" (top 9) f fd) (hm : mg "is_rational" = some (.ref f)) (T : Tx tab K mg) (fs_is_integer_rationals : FS P w K mg base "is_integer_rationals" 1 1 F_is_integer) : FS P w K mg base "is_rational" 2 1 F_is_rational := by
  refine fs_of (n := 3) (m := M_is_rational) F sc_is_rational rfl hm (F.bindsN fun _ _ _ _ _ _ us hl => match us, hl with | [_], _ => rfl) fun cdv A outer s H E hr => ?_
  have hu := hr.units
  have T_fok : XFs K tab.fok := T.fokE
  exact (ss_cons (st_if (t_of_w (w_or (t_not (t_truth (s_isi rfl (T.mn "isinstance" (by decide)) rfl (T.mn "tuple" (by decide)) (by decide +kernel) (s_var (pv 0))))) (w_or1 (t_cmp (o_ne hu) (s_callB c_len rfl (T.mn "len" (by decide)) (by decide +kernel) (s_acons (s_var (pv 0)) s_anil)) s_int (nomark _))))) (ss_one (st_ret s_bl)) ss_nil)
  (ss_cons (st_asg (s_var (pv 0)) (sg_tup rfl (sgs_cons (sg_name (pg_name (i := 1) sc_is_rational.nd rfl (.inl rfl))) (sgs_cons (sg_name (pg_name (i := 2) sc_is_rational.nd rfl (.inl rfl))) sgs_nil))))
  (ss_one (st_ret (s_and (s_call fs_is_integer_rationals hr (by first | decide | omega) rfl rfl (s_acons (s_var (pv 1)) s_anil) (hml := (la_cons la_nil))) (s_and (s_call fs_is_integer_rationals hr (by first | decide | omega) rfl rfl (s_acons (s_var (pv 2)) s_anil) (hml := (la_cons la_nil))) (s_and (s_cmp o_gt (s_var (pv 2)) s_int (nomark _)) (s_one (s_cmp (o_eq hu) (s_callF c_gcd rfl (T.mb "gcd" "math.gcd" (by decide)) (s_acons (s_var (pv 1)) (s_acons (s_var (pv 2)) s_anil))) s_int (nomark _))))))))))
theorem sc_is_amount : FnScope ["value"] ["value"] (defScope (top 27)) := ⟨rfl, rfl, rfl, by decide +kernel, rfl, by decide +kernel, by decide +kernel⟩
theorem sim_is_amount {f : Addr} {fd : FuncData} (F : FnP K "is_amount" (top 27) f fd) (hm : mg "is_amount" = some (.ref f)) (T : Tx tab K mg) (fs_is_rational : FS P w K mg base "is_rational" 2 1 F_is_rational) : FS P w K mg base "is_amount" 3 1 F_is_amount := by
  refine fs_of (n := 1) (m := M_is_amount) F sc_is_amount rfl hm (F.bindsN fun _ _ _ _ _ _ us hl => match us, hl with | [_], _ => rfl) fun cdv A outer s H E hr => ?_
  have hu := hr.units
  have T_fok : XFs K tab.fok := T.fokE
  exact (ss_one (st_ret (s_and (s_call fs_is_rational hr (by first | decide | omega) rfl rfl (s_acons (s_var (pv 0)) s_anil) (hml := (la_cons la_nil))) (s_and (s_chain o_le o_le s_int (s_ix (s_var (pv 0)) s_int) (s_con rfl (T.con "MOST_AMOUNT" _ (List.mem_of_getElem? (i := 0) rfl)))) (s_one (s_cmp o_le (s_ix (s_var (pv 0)) s_int) (s_con rfl (T.con "MOST_AMOUNT_DENOMINATOR" _ (List.mem_of_getElem? (i := 1) rfl))) (nomark _)))))))
theorem sc_points_problem : FnScope ["points", "many", "point"] ["points", "many"] (defScope (top 29)) := ⟨rfl, rfl, rfl, by decide +kernel, rfl, by decide +kernel, by decide +kernel⟩
theorem sim_points_problem {f : Addr} {fd : FuncData} (F : FnP K "points_problem" (top 29) f fd) (hm : mg "points_problem" = some (.ref f)) (T : Tx tab K mg) (fs_is_index : FS P w K mg base "is_index" 2 2 F_is_index) : FS P w K mg base "points_problem" 3 2 F_points_problem := by
  refine fs_of (n := 3) (m := M_points_problem) F sc_points_problem rfl hm (F.bindsN fun _ _ _ _ _ _ us hl => match us, hl with | [_, _], _ => rfl) fun cdv A outer s H E hr => ?_
  have hu := hr.units
  have T_fok : XFs K tab.fok := T.fokE
  exact (ss_cons (st_if (t_truth (s_callB (c_all rfl) rfl (T.mn "all" (by decide)) (by decide +kernel) (s_acons (s_lc (own := [("point", 2)]) rfl rfl sc_points_problem.nd (si_seq (s_var (pv 0))) (blkOk_by (N := ["points", "many", "point"]) (sc := defScope (top 29)) (own := [("point", 2)]) (by decide +kernel)) (gf_name (fun s H C cl fp => pg_name (i := 2) sc_points_problem.nd rfl (.inl rfl)) (by decide)) tf_nil (fun s H C cl fp => (s_call fs_is_index hr (by first | decide | omega) rfl rfl (s_acons (s_var (pv 2)) (s_acons (s_var (pv 1)) s_anil)) (hml := (la_cons (la_cons la_nil)))))) s_anil))) (ss_one (st_ret s_non)) ss_nil)
  (ss_one (st_ret s_str)))
theorem sc_reduced : FnScope ["n", "d", "common"] ["n", "d"] (defScope (top 10)) := ⟨rfl, rfl, rfl, by decide +kernel, rfl, by decide +kernel, by decide +kernel⟩
theorem sim_reduced {f : Addr} {fd : FuncData} (F : FnP K "reduced" (top 10) f fd) (hm : mg "reduced" = some (.ref f)) (T : Tx tab K mg) : FS P w K mg base "reduced" 1 2 F_reduced := by
  refine fs_of (n := 3) (m := M_reduced) F sc_reduced rfl hm (F.bindsN fun _ _ _ _ _ _ us hl => match us, hl with | [_, _], _ => rfl) fun cdv A outer s H E hr => ?_
  have hu := hr.units
  have T_fok : XFs K tab.fok := T.fokE
  exact (ss_cons (st_set (i := 2) sc_reduced.nd rfl (.inl rfl) (s_callF c_gcd rfl (T.mb "gcd" "math.gcd" (by decide)) (s_acons (s_var (pv 0)) (s_acons (s_var (pv 1)) s_anil))))
  (ss_one (st_ret (s_tup (s_acons (s_bin o_fdiv (s_var (pv 0)) (s_var (pv 2))) (s_acons (s_bin o_fdiv (s_var (pv 1)) (s_var (pv 2))) s_anil))))))
theorem sc_plus : FnScope ["a", "b"] ["a", "b"] (defScope (top 11)) := ⟨rfl, rfl, rfl, by decide +kernel, rfl, by decide +kernel, by decide +kernel⟩
theorem sim_plus {f : Addr} {fd : FuncData} (F : FnP K "plus" (top 11) f fd) (hm : mg "plus" = some (.ref f)) (T : Tx tab K mg) (fs_reduced : FS P w K mg base "reduced" 1 2 F_reduced) : FS P w K mg base "plus" 2 2 F_plus := by
  refine fs_of (n := 2) (m := M_plus) F sc_plus rfl hm (F.bindsN fun _ _ _ _ _ _ us hl => match us, hl with | [_, _], _ => rfl) fun cdv A outer s H E hr => ?_
  have hu := hr.units
  have T_fok : XFs K tab.fok := T.fokE
  exact (ss_one (st_ret (s_call fs_reduced hr (by first | decide | omega) rfl rfl (s_acons (s_bin o_add (s_bin o_mul (s_ix (s_var (pv 0)) s_int) (s_ix (s_var (pv 1)) s_int)) (s_bin o_mul (s_ix (s_var (pv 0)) s_int) (s_ix (s_var (pv 1)) s_int))) (s_acons (s_bin o_mul (s_ix (s_var (pv 0)) s_int) (s_ix (s_var (pv 1)) s_int)) s_anil)) (hml := (la_cons (la_cons la_nil))))))
theorem sc_is_chance : FnScope ["value"] ["value"] (defScope (top 26)) := ⟨rfl, rfl, rfl, by decide +kernel, rfl, by decide +kernel, by decide +kernel⟩
theorem sim_is_chance {f : Addr} {fd : FuncData} (F : FnP K "is_chance" (top 26) f fd) (hm : mg "is_chance" = some (.ref f)) (T : Tx tab K mg) (fs_is_rational : FS P w K mg base "is_rational" 2 1 F_is_rational) : FS P w K mg base "is_chance" 3 1 F_is_chance := by
  refine fs_of (n := 1) (m := M_is_chance) F sc_is_chance rfl hm (F.bindsN fun _ _ _ _ _ _ us hl => match us, hl with | [_], _ => rfl) fun cdv A outer s H E hr => ?_
  have hu := hr.units
  have T_fok : XFs K tab.fok := T.fokE
  exact (ss_one (st_ret (s_and (s_call fs_is_rational hr (by first | decide | omega) rfl rfl (s_acons (s_var (pv 0)) s_anil) (hml := (la_cons la_nil))) (s_and (s_cmp o_gt (s_ix (s_var (pv 0)) s_int) s_int (nomark _)) (s_one (s_cmp o_le (s_ix (s_var (pv 0)) s_int) (s_con rfl (T.con "MOST_DENOMINATOR" _ (List.mem_of_getElem? (i := 3) rfl))) (nomark _)))))))
theorem sc_draw_problem : FnScope ["branches", "many", "total", "chance", "point"] ["branches", "many"] (defScope (top 28)) := ⟨rfl, rfl, rfl, by decide +kernel, rfl, by decide +kernel, by decide +kernel⟩
theorem sim_draw_problem {f : Addr} {fd : FuncData} (F : FnP K "draw_problem" (top 28) f fd) (hm : mg "draw_problem" = some (.ref f)) (T : Tx tab K mg) (fs_plus : FS P w K mg base "plus" 2 2 F_plus) (fs_is_index : FS P w K mg base "is_index" 2 2 F_is_index) (fs_is_chance : FS P w K mg base "is_chance" 3 1 F_is_chance) : FS P w K mg base "draw_problem" 4 2 F_draw_problem := by
  refine fs_of (n := 5) (m := M_draw_problem) F sc_draw_problem rfl hm (F.bindsN fun _ _ _ _ _ _ us hl => match us, hl with | [_, _], _ => rfl) fun cdv A outer s H E hr => ?_
  have hu := hr.units
  have T_fok : XFs K tab.fok := T.fokE
  exact (ss_cons (st_if (t_not (t_chain o_le o_le s_int (s_callB c_len rfl (T.mn "len" (by decide)) (by decide +kernel) (s_acons (s_var (pv 0)) s_anil)) (s_con rfl (T.con "MOST_BRANCHES" _ (List.mem_of_getElem? (i := 2) rfl))))) (ss_one (st_ret s_str)) ss_nil)
  (ss_cons (st_set (i := 2) sc_draw_problem.nd rfl (.inl rfl) (s_tup (s_acons s_int (s_acons s_int s_anil))))
  (ss_cons (st_for (passes_of rfl) rfl (si_seq (s_var (pv 0))) (sg_tup rfl (sgs_cons (sg_name (pg_name (i := 3) sc_draw_problem.nd rfl (.inl rfl))) (sgs_cons (sg_name (pg_name (i := 4) sc_draw_problem.nd rfl (.inl rfl))) sgs_nil))) (ss_cons (st_if (t_not (t_truth (s_call fs_is_chance hr (by first | decide | omega) rfl rfl (s_acons (s_var (pv 3)) s_anil) (hml := (la_cons la_nil))))) (ss_one (st_ret s_str)) ss_nil)
  (ss_cons (st_if (t_not (t_truth (s_call fs_is_index hr (by first | decide | omega) rfl rfl (s_acons (s_var (pv 4)) (s_acons (s_var (pv 1)) s_anil)) (hml := (la_cons (la_cons la_nil)))))) (ss_one (st_ret s_str)) ss_nil)
  (ss_one (st_set (i := 2) sc_draw_problem.nd rfl (.inl rfl) (s_call fs_plus hr (by first | decide | omega) rfl rfl (s_acons (s_var (pv 2)) (s_acons (s_var (pv 3)) s_anil)) (hml := (la_cons (la_cons la_nil)))))))))
  (ss_one (st_ret (s_if (t_cmp (o_eq hu) (s_var (pv 2)) (s_tup (s_acons s_int (s_acons s_int s_anil))) (nomark _)) s_non s_str))))))
theorem sc_has_form : FnScope ["point", "one"] ["point"] (defScope (top 25)) := ⟨rfl, rfl, rfl, by decide +kernel, rfl, by decide +kernel, by decide +kernel⟩
theorem sim_has_form {f : Addr} {fd : FuncData} (F : FnP K "has_form" (top 25) f fd) (hm : mg "has_form" = some (.ref f)) (T : Tx tab K mg) (fs_is_integer : FS P w K mg base "is_integer" 1 1 F_is_integer) (dic_LENGTHS : DicT K mg w "LENGTHS" [("exit", (.int 2)), ("draw", (.int 2)), ("choose", (.int 2)), ("call", (.int 3)), ("reward", (.int 3)), ("reject", (.int 1)), ("stop", (.int 1))]) : FS P w K mg base "has_form" 2 1 F_has_form := by
  refine fs_of (n := 2) (m := M_has_form) F sc_has_form rfl hm (F.bindsN fun _ _ _ _ _ _ us hl => match us, hl with | [_], _ => rfl) fun cdv A outer s H E hr => ?_
  have hu := hr.units
  have T_fok : XFs K tab.fok := T.fokE
  exact (ss_cons (st_if (t_of_w (w_or (t_not (t_truth (s_isi rfl (T.mn "isinstance" (by decide)) rfl (T.mn "tuple" (by decide)) (by decide +kernel) (s_var (pv 0))))) (w_or (t_cmp (o_eq hu) (s_callB c_len rfl (T.mn "len" (by decide)) (by decide +kernel) (s_acons (s_var (pv 0)) s_anil)) s_int (nomark _)) (w_or1 (t_not (t_truth (s_isi rfl (T.mn "isinstance" (by decide)) rfl (T.mn "str" (by decide)) (by decide +kernel) (s_ix (s_var (pv 0)) s_int)))))))) (ss_one (st_ret s_bl)) ss_nil)
  (ss_cons (st_if (t_cmp (o_ne hu) (s_callB c_len rfl (T.mn "len" (by decide)) (by decide +kernel) (s_acons (s_var (pv 0)) s_anil)) (s_wget dic_LENGTHS rfl (s_ix (s_var (pv 0)) s_int) s_int ⟨rfl, rfl, rfl, rfl⟩) (nomark _)) (ss_one (st_ret s_bl)) ss_nil)
  (ss_cons (st_if (t_cmp (o_eq hu) (s_ix (s_var (pv 0)) s_int) s_str (nomark _)) (ss_one (st_ret (s_call (FS.ali fs_is_integer (T.mc "is_integer" (by decide)) (T.ali "is_integer_graphs" "is_integer" (by decide))) hr (by first | decide | omega) rfl rfl (s_acons (s_ix (s_var (pv 0)) s_int) s_anil) (hml := (la_cons la_nil))))) ss_nil)
  (ss_cons (st_if (t_cmp (o_eq hu) (s_ix (s_var (pv 0)) s_int) s_str (nomark _)) (ss_one (st_ret (s_and (s_isi rfl (T.mn "isinstance" (by decide)) rfl (T.mn "tuple" (by decide)) (by decide +kernel) (s_ix (s_var (pv 0)) s_int)) (s_one (s_callB (c_all rfl) rfl (T.mn "all" (by decide)) (by decide +kernel) (s_acons (s_lc (own := [("one", 1)]) rfl rfl sc_has_form.nd (si_seq (s_ix (s_var (pv 0)) s_int)) (blkOk_by (N := ["point", "one"]) (sc := defScope (top 25)) (own := [("one", 1)]) (by decide +kernel)) (gf_name (fun s H C cl fp => pg_name (i := 1) sc_has_form.nd rfl (.inl rfl)) (by decide)) tf_nil (fun s H C cl fp => (s_and (s_isi rfl (T.mn "isinstance" (by decide)) rfl (T.mn "tuple" (by decide)) (by decide +kernel) (s_var (pv 1))) (s_one (s_cmp (o_eq hu) (s_callB c_len rfl (T.mn "len" (by decide)) (by decide +kernel) (s_acons (s_var (pv 1)) s_anil)) s_int (nomark _)))))) s_anil)))))) ss_nil)
  (ss_cons (st_if (t_cmp (o_eq hu) (s_ix (s_var (pv 0)) s_int) s_str (nomark _)) (ss_one (st_ret (s_isi rfl (T.mn "isinstance" (by decide)) rfl (T.mn "tuple" (by decide)) (by decide +kernel) (s_ix (s_var (pv 0)) s_int)))) ss_nil)
  (ss_cons (st_if (t_cmp (o_eq hu) (s_ix (s_var (pv 0)) s_int) s_str (nomark _)) (ss_one (st_ret (s_and (s_call (FS.ali fs_is_integer (T.mc "is_integer" (by decide)) (T.ali "is_integer_graphs" "is_integer" (by decide))) hr (by first | decide | omega) rfl rfl (s_acons (s_ix (s_var (pv 0)) s_int) s_anil) (hml := (la_cons la_nil))) (s_one (s_isi rfl (T.mn "isinstance" (by decide)) rfl (T.mn "tuple" (by decide)) (by decide +kernel) (s_ix (s_var (pv 0)) s_int)))))) ss_nil)
  (ss_one (st_ret s_bl))))))))
theorem sc_point_problem : FnScope ["procedures", "procedure", "point", "many", "word"] ["procedures", "procedure", "point"] (defScope (top 30)) := ⟨rfl, rfl, rfl, by decide +kernel, rfl, by decide +kernel, by decide +kernel⟩
theorem sim_point_problem {f : Addr} {fd : FuncData} (F : FnP K "point_problem" (top 30) f fd) (hm : mg "point_problem" = some (.ref f)) (T : Tx tab K mg) (fs_is_amount : FS P w K mg base "is_amount" 3 1 F_is_amount) (fs_points_problem : FS P w K mg base "points_problem" 3 2 F_points_problem) (fs_is_index : FS P w K mg base "is_index" 2 2 F_is_index) (fs_draw_problem : FS P w K mg base "draw_problem" 4 2 F_draw_problem) (fs_has_form : FS P w K mg base "has_form" 2 1 F_has_form) : FS P w K mg base "point_problem" 5 3 F_point_problem := by
  refine fs_of (n := 5) (m := M_point_problem) F sc_point_problem rfl hm (F.bindsN fun _ _ _ _ _ _ us hl => match us, hl with | [_, _, _], _ => rfl) fun cdv A outer s H E hr => ?_
  have hu := hr.units
  have T_fok : XFs K tab.fok := T.fokE
  exact (ss_cons (st_set (i := 3) sc_point_problem.nd rfl (.inl rfl) (s_callB c_len rfl (T.mn "len" (by decide)) (by decide +kernel) (s_acons (s_ix (s_var (pv 1)) s_int) s_anil)))
  (ss_cons (st_if (t_not (t_truth (s_call fs_has_form hr (by first | decide | omega) rfl rfl (s_acons (s_var (pv 2)) s_anil) (hml := (la_cons la_nil))))) (ss_one (st_ret s_str)) ss_nil)
  (ss_cons (st_set (i := 4) sc_point_problem.nd rfl (.inl rfl) (s_ix (s_var (pv 2)) s_int))
  (ss_cons (st_if (t_cmp (o_eq hu) (s_var (pv 4)) s_str (nomark _)) (ss_one (st_ret (s_if (t_truth (s_call fs_is_index hr (by first | decide | omega) rfl rfl (s_acons (s_ix (s_var (pv 2)) s_int) (s_acons (s_ix (s_var (pv 1)) s_int) s_anil)) (hml := (la_cons (la_cons la_nil))))) s_non s_str))) ss_nil)
  (ss_cons (st_if (t_cmp (o_eq hu) (s_var (pv 4)) s_str (nomark _)) (ss_one (st_ret (s_call fs_draw_problem hr (by first | decide | omega) rfl rfl (s_acons (s_ix (s_var (pv 2)) s_int) (s_acons (s_var (pv 3)) s_anil)) (hml := (la_cons (la_cons la_nil)))))) ss_nil)
  (ss_cons (st_if (t_cmp (o_eq hu) (s_var (pv 4)) s_str (nomark _)) (ss_one (st_ret (s_if (t_chain o_le o_le s_int (s_callB c_len rfl (T.mn "len" (by decide)) (by decide +kernel) (s_acons (s_ix (s_var (pv 2)) s_int) s_anil)) (s_con rfl (T.con "MOST_BRANCHES" _ (List.mem_of_getElem? (i := 2) rfl)))) (s_call fs_points_problem hr (by first | decide | omega) rfl rfl (s_acons (s_ix (s_var (pv 2)) s_int) (s_acons (s_var (pv 3)) s_anil)) (hml := (la_cons (la_cons la_nil)))) s_str))) ss_nil)
  (ss_cons (st_if (t_cmp (o_eq hu) (s_var (pv 4)) s_str (nomark _)) (ss_cons (st_if (t_not (t_truth (s_call fs_is_index hr (by first | decide | omega) rfl rfl (s_acons (s_ix (s_var (pv 2)) s_int) (s_acons (s_callB c_len rfl (T.mn "len" (by decide)) (by decide +kernel) (s_acons (s_var (pv 0)) s_anil)) s_anil)) (hml := (la_cons (la_cons la_nil)))))) (ss_one (st_ret s_str)) ss_nil)
  (ss_cons (st_if (t_cmp (o_ne hu) (s_callB c_len rfl (T.mn "len" (by decide)) (by decide +kernel) (s_acons (s_ix (s_var (pv 2)) s_int) s_anil)) (s_ix (s_ix (s_var (pv 0)) (s_ix (s_var (pv 2)) s_int)) s_int) (nomark _)) (ss_one (st_ret s_str)) ss_nil)
  (ss_one (st_ret (s_call fs_points_problem hr (by first | decide | omega) rfl rfl (s_acons (s_ix (s_var (pv 2)) s_int) (s_acons (s_var (pv 3)) s_anil)) (hml := (la_cons (la_cons la_nil)))))))) ss_nil)
  (ss_cons (st_if (t_cmp (o_eq hu) (s_var (pv 4)) s_str (nomark _)) (ss_one (st_ret (s_if (t_truth (s_call fs_is_amount hr (by first | decide | omega) rfl rfl (s_acons (s_ix (s_var (pv 2)) s_int) s_anil) (hml := (la_cons la_nil)))) (s_call fs_points_problem hr (by first | decide | omega) rfl rfl (s_acons (s_tup (s_acons (s_ix (s_var (pv 2)) s_int) s_anil)) (s_acons (s_var (pv 3)) s_anil)) (hml := (la_cons (la_cons la_nil)))) s_str))) ss_nil)
  (ss_one (st_ret s_non))))))))))
theorem sc_check_procedure : FnScope ["at", "procedure"] ["at", "procedure"] (defScope (top 31)) := ⟨rfl, rfl, rfl, by decide +kernel, rfl, by decide +kernel, by decide +kernel⟩
theorem sim_check_procedure {f : Addr} {fd : FuncData} (F : FnP K "check_procedure" (top 31) f fd) (hm : mg "check_procedure" = some (.ref f)) (T : Tx tab K mg) (fs_is_integer : FS P w K mg base "is_integer" 1 1 F_is_integer) (xc_BadGraph : XC P w K mg base "BadGraph" 1 ["where", "why"]) : FS P w K mg base "check_procedure" 3 2 F_check_procedure := by
  refine fs_of (n := 2) (m := M_check_procedure) F sc_check_procedure rfl hm (F.bindsN fun _ _ _ _ _ _ us hl => match us, hl with | [_, _], _ => rfl) fun cdv A outer s H E hr => ?_
  have hu := hr.units
  have T_fok : XFs K tab.fok := T.fokE
  exact (ss_cons (st_if (t_of_w (w_or (t_not (t_truth (s_isi rfl (T.mn "isinstance" (by decide)) rfl (T.mn "tuple" (by decide)) (by decide +kernel) (s_var (pv 1))))) (w_or1 (t_cmp (o_ne hu) (s_callB c_len rfl (T.mn "len" (by decide)) (by decide +kernel) (s_acons (s_var (pv 1)) s_anil)) s_int (nomark _))))) (ss_one (st_raise rfl xc_BadGraph hr (by first | decide | omega) rfl (s_acons (s_tup (s_acons (s_var (pv 0)) s_anil)) (s_acons s_str s_anil)))) ss_nil)
  (ss_cons (st_if (t_of_w (w_or (t_not (t_truth (s_call (FS.ali fs_is_integer (T.mc "is_integer" (by decide)) (T.ali "is_integer_graphs" "is_integer" (by decide))) hr (by first | decide | omega) rfl rfl (s_acons (s_ix (s_var (pv 1)) s_int) s_anil) (hml := (la_cons la_nil))))) (w_or1 (t_not (t_truth (s_isi rfl (T.mn "isinstance" (by decide)) rfl (T.mn "tuple" (by decide)) (by decide +kernel) (s_ix (s_var (pv 1)) s_int))))))) (ss_one (st_raise rfl xc_BadGraph hr (by first | decide | omega) rfl (s_acons (s_tup (s_acons (s_var (pv 0)) s_anil)) (s_acons s_str s_anil)))) ss_nil)
  (ss_cons (st_if (t_not (t_chain o_le o_le s_int (s_ix (s_var (pv 1)) s_int) (s_con rfl (T.con "MOST_EXITS" _ (List.mem_of_getElem? (i := 6) rfl))))) (ss_one (st_raise rfl xc_BadGraph hr (by first | decide | omega) rfl (s_acons (s_tup (s_acons (s_var (pv 0)) s_anil)) (s_acons s_str s_anil)))) ss_nil)
  (ss_one (st_if (t_not (t_chain o_le o_le s_int (s_callB c_len rfl (T.mn "len" (by decide)) (by decide +kernel) (s_acons (s_ix (s_var (pv 1)) s_int) s_anil)) (s_con rfl (T.con "MOST_POINTS" _ (List.mem_of_getElem? (i := 5) rfl))))) (ss_one (st_raise rfl xc_BadGraph hr (by first | decide | omega) rfl (s_acons (s_tup (s_acons (s_var (pv 0)) s_anil)) (s_acons s_str s_anil)))) ss_nil)))))
theorem sc_check_procedures : FnScope ["procedures", "at", "procedure", "i", "point", "problem"] ["procedures"] (defScope (top 32)) := ⟨rfl, rfl, rfl, by decide +kernel, rfl, by decide +kernel, by decide +kernel⟩
theorem sim_check_procedures {f : Addr} {fd : FuncData} (F : FnP K "check_procedures" (top 32) f fd) (hm : mg "check_procedures" = some (.ref f)) (T : Tx tab K mg) (fs_point_problem : FS P w K mg base "point_problem" 5 3 F_point_problem) (fs_check_procedure : FS P w K mg base "check_procedure" 3 2 F_check_procedure) (xc_BadGraph : XC P w K mg base "BadGraph" 1 ["where", "why"]) : FS P w K mg base "check_procedures" 6 1 F_check_procedures := by
  refine fs_of (n := 6) (m := M_check_procedures) F sc_check_procedures rfl hm (F.bindsN fun _ _ _ _ _ _ us hl => match us, hl with | [_], _ => rfl) fun cdv A outer s H E hr => ?_
  have hu := hr.units
  have T_fok : XFs K tab.fok := T.fokE
  exact (ss_cons (st_if (t_not (t_truth (s_isi rfl (T.mn "isinstance" (by decide)) rfl (T.mn "tuple" (by decide)) (by decide +kernel) (s_var (pv 0))))) (ss_one (st_raise rfl xc_BadGraph hr (by first | decide | omega) rfl (s_acons (s_tup s_anil) (s_acons s_str s_anil)))) ss_nil)
  (ss_cons (st_if (t_not (t_chain o_le o_le s_int (s_callB c_len rfl (T.mn "len" (by decide)) (by decide +kernel) (s_acons (s_var (pv 0)) s_anil)) (s_con rfl (T.con "MOST_PROCEDURES" _ (List.mem_of_getElem? (i := 7) rfl))))) (ss_one (st_raise rfl xc_BadGraph hr (by first | decide | omega) rfl (s_acons (s_tup s_anil) (s_acons s_str s_anil)))) ss_nil)
  (ss_cons (st_for (passes_of rfl) rfl (si_enumA rfl (T.mn "enumerate" (by decide)) (s_acons (s_var (pv 0)) s_anil)) (sg_tup rfl (sgs_cons (sg_name (pg_name (i := 1) sc_check_procedures.nd rfl (.inl rfl))) (sgs_cons (sg_name (pg_name (i := 2) sc_check_procedures.nd rfl (.inl rfl))) sgs_nil))) (ss_one (st_expr (s_call fs_check_procedure hr (by first | decide | omega) rfl rfl (s_acons (s_var (pv 1)) (s_acons (s_var (pv 2)) s_anil)) (hml := (la_cons (la_cons la_nil)))))))
  (ss_cons (st_if (t_cmp o_gt (s_callB (c_sum rfl) rfl (T.mn "sum" (by decide)) (by decide +kernel) (s_acons (s_lc (own := [("procedure", 2)]) rfl rfl sc_check_procedures.nd (si_seq (s_var (pv 0))) (blkOk_by (N := ["procedures", "at", "procedure", "i", "point", "problem"]) (sc := defScope (top 32)) (own := [("procedure", 2)]) (by decide +kernel)) (gf_name (fun s H C cl fp => pg_name (i := 2) sc_check_procedures.nd rfl (.inl rfl)) (by decide)) tf_nil (fun s H C cl fp => (s_callB c_len rfl (T.mn "len" (by decide)) (by decide +kernel) (s_acons (s_ix (s_var (pv 2)) s_int) s_anil)))) s_anil)) (s_con rfl (T.con "MOST_IN_ALL" _ (List.mem_of_getElem? (i := 4) rfl))) (nomark _)) (ss_one (st_raise rfl xc_BadGraph hr (by first | decide | omega) rfl (s_acons (s_tup s_anil) (s_acons s_str s_anil)))) ss_nil)
  (ss_one (st_for (passes_of rfl) rfl (si_enumA rfl (T.mn "enumerate" (by decide)) (s_acons (s_var (pv 0)) s_anil)) (sg_tup rfl (sgs_cons (sg_name (pg_name (i := 1) sc_check_procedures.nd rfl (.inl rfl))) (sgs_cons (sg_name (pg_name (i := 2) sc_check_procedures.nd rfl (.inl rfl))) sgs_nil))) (ss_one (st_for (passes_of rfl) rfl (si_enumA rfl (T.mn "enumerate" (by decide)) (s_acons (s_ix (s_var (pv 2)) s_int) s_anil)) (sg_tup rfl (sgs_cons (sg_name (pg_name (i := 3) sc_check_procedures.nd rfl (.inl rfl))) (sgs_cons (sg_name (pg_name (i := 4) sc_check_procedures.nd rfl (.inl rfl))) sgs_nil))) (ss_cons (st_set (i := 5) sc_check_procedures.nd rfl (.inl rfl) (s_call fs_point_problem hr (by first | decide | omega) rfl rfl (s_acons (s_var (pv 0)) (s_acons (s_var (pv 2)) (s_acons (s_var (pv 4)) s_anil))) (hml := (la_cons (la_cons (la_cons la_nil))))))
  (ss_one (st_if (t_cmp o_isnot (s_var (pv 5)) s_non (nomark _)) (ss_one (st_raise rfl xc_BadGraph hr (by first | decide | omega) rfl (s_acons (s_tup (s_acons (s_var (pv 1)) (s_acons (s_var (pv 3)) s_anil))) (s_acons (s_var (pv 5)) s_anil)))) ss_nil)))))))))))
theorem sc_Graph_init : FnScope ["self", "procedures"] ["self", "procedures"] (defScope (inClass (top 34) 0)) := ⟨rfl, rfl, rfl, by decide +kernel, rfl, by decide +kernel, by decide +kernel⟩
theorem sim_Graph_init {fd : FuncData} (F : FunD K "__init__" "Graph.__init__" (defArgs (inClass (top 34) 0)) (defBody (inClass (top 34) 0)) (defScope (inClass (top 34) 0)) [] [] (He.ma K (He.ga K "Graph") "__init__") fd) (T : Tx tab K mg) (fs_check_procedures : FS P w K mg base "check_procedures" 6 1 F_check_procedures) : FI P w K mg base "Graph" 7 2 ["procedures"] F_Graph_init := by
  refine fi_of (n := 2) (j := 1) (ps := ["self", "procedures"]) (ks := ["procedures"]) (b := M_Graph_init) F sc_Graph_init rfl T (by decide) (by simp [tab]) rfl (fun _ _ _ _ _ _ us ws h1 h2 => match us, ws, h1, h2 with | [_], [_], _, _ => rfl) fun cdv A outer s H E hr => ?_
  have hu := hr.units
  have T_fok : XFs K tab.fok := T.fokE
  exact (ss_cons (st_expr (s_call fs_check_procedures hr (by first | decide | omega) rfl rfl (s_acons (s_var (pv 1)) s_anil) (hml := (la_cons la_nil))))
  (ss_one (st_ost (T.okFE (by decide +kernel)) (s_var (pv 0)) (s_var (pv 1)))))
theorem sc__law_next : FnScope ["_law_stream_here", "_law_many", "_law_digit", "_law_k", "_law_cell"] ["_law_stream_here", "_law_many"] (defScope (top 37)) := ⟨rfl, rfl, rfl, by decide +kernel, rfl, by decide +kernel, by decide +kernel⟩
theorem sim__law_next {f : Addr} {fd : FuncData} (F : FnP K "_law_next" (top 37) f fd) (hm : mg "_law_next" = some (.ref f)) (T : Tx tab K mg) : FS P w K mg base "_law_next" 1 2 F__law_next := by
  refine fs_of (n := 5) (m := M__law_next) F sc__law_next rfl hm (F.bindsN fun _ _ _ _ _ _ us hl => match us, hl with | [_, _], _ => rfl) fun cdv A outer s H E hr => ?_
  have hu := hr.units
  have T_fok : XFs K tab.fok := T.fokE
  exact (ss_cons (st_if (t_cmp (o_eq hu) (s_ix (s_var (pv 0)) s_int) s_int (nomark _)) (ss_cons (st_set (i := 3) sc__law_next.nd rfl (.inl rfl) (s_ix (s_var (pv 0)) s_int))
  (ss_cons (st_set (i := 4) sc__law_next.nd rfl (.inl rfl) (s_bin o_add s_int (s_var (pv 3))))
  (ss_cons (st_if (t_cmp o_lt (s_var (pv 3)) (s_callB c_len rfl (T.mn "len" (by decide)) (by decide +kernel) (s_acons (s_ix (s_var (pv 0)) s_int) s_anil)) (nomark _)) (ss_one (st_set (i := 4) sc__law_next.nd rfl (.inl rfl) (s_callB c_abs rfl (T.mn "abs" (by decide)) (by decide +kernel) (s_acons (s_ix (s_ix (s_var (pv 0)) s_int) (s_var (pv 3))) s_anil)))) ss_nil)
  (ss_cons (st_if (t_cmp o_lt (s_var (pv 4)) (s_bin o_pow s_int s_int) (nomark _)) (ss_cons (st_set (i := 4) sc__law_next.nd rfl (.inl rfl) (s_bin o_mod (s_callTy c_int rfl (T.mn "int" (by decide)) (by decide +kernel) (s_acons (s_bin o_add (s_bin o_add (s_bin o_mul (s_var (pv 4)) s_int) (s_bin o_mul (s_var (pv 3)) s_int)) s_int) s_anil)) s_int))
  (ss_one (st_set (i := 4) sc__law_next.nd rfl (.inl rfl) (s_bin o_add (s_bin o_mul (s_bin o_mod (s_callTy c_int rfl (T.mn "int" (by decide)) (by decide +kernel) (s_acons (s_bin o_add (s_bin o_mul (s_var (pv 4)) s_int) s_int) s_anil)) s_int) s_int) (s_var (pv 4)))))) ss_nil)
  (ss_cons (st_put p_list (s_var (pv 0)) s_int (s_var (pv 4)))
  (ss_one (st_put p_list (s_var (pv 0)) s_int (s_bin o_add (s_var (pv 3)) s_int)))))))) ss_nil)
  (ss_cons (st_set (i := 2) sc__law_next.nd rfl (.inl rfl) (s_bin o_mod (s_callTy c_int rfl (T.mn "int" (by decide)) (by decide +kernel) (s_acons (s_ix (s_var (pv 0)) s_int) s_anil)) (s_var (pv 1))))
  (ss_cons (st_put p_list (s_var (pv 0)) s_int (s_bin o_fdiv (s_ix (s_var (pv 0)) s_int) (s_var (pv 1))))
  (ss_one (st_ret (s_var (pv 2)))))))
theorem sc__law_gcd : FnScope ["_law_a", "_law_b", "_law_k"] ["_law_a", "_law_b"] (defScope (top 39)) := ⟨rfl, rfl, rfl, by decide +kernel, rfl, by decide +kernel, by decide +kernel⟩
theorem sim__law_gcd {f : Addr} {fd : FuncData} (F : FnP K "_law_gcd" (top 39) f fd) (hm : mg "_law_gcd" = some (.ref f)) (T : Tx tab K mg) : FS P w K mg base "_law_gcd" 1 2 F__law_gcd := by
  refine fs_of (n := 3) (m := M__law_gcd) F sc__law_gcd rfl hm (F.bindsN fun _ _ _ _ _ _ us hl => match us, hl with | [_, _], _ => rfl) fun cdv A outer s H E hr => ?_
  have hu := hr.units
  have T_fok : XFs K tab.fok := T.fokE
  exact (ss_cons (st_set (i := 0) sc__law_gcd.nd rfl (.inl rfl) (s_callB c_abs rfl (T.mn "abs" (by decide)) (by decide +kernel) (s_acons (s_var (pv 0)) s_anil)))
  (ss_cons (st_set (i := 1) sc__law_gcd.nd rfl (.inl rfl) (s_callB c_abs rfl (T.mn "abs" (by decide)) (by decide +kernel) (s_acons (s_var (pv 1)) s_anil)))
  (ss_cons (st_for (passes_of rfl) rfl (si_range1 rfl (T.mn "range" (by decide)) (s_acons s_int s_anil)) (sg_name (pg_name (i := 2) sc__law_gcd.nd rfl (.inl rfl))) (ss_cons (st_if (t_cmp (o_eq hu) (s_var (pv 1)) s_int (nomark _)) (ss_one st_break) ss_nil)
  (ss_one (st_par (i := 0) (j := 1) rfl sc__law_gcd.nd rfl rfl (by decide) rfl rfl (s_acons (s_var (pv 1)) (s_acons (s_bin o_mod (s_callTy c_int rfl (T.mn "int" (by decide)) (by decide +kernel) (s_acons (s_var (pv 0)) s_anil)) (s_var (pv 1))) s_anil)) rfl))))
  (ss_one (st_ret (s_var (pv 0)))))))
theorem sc__law_low : FnScope ["_law_n", "_law_d", "_law_shared"] ["_law_n", "_law_d"] (defScope (top 40)) := ⟨rfl, rfl, rfl, by decide +kernel, rfl, by decide +kernel, by decide +kernel⟩
theorem sim__law_low {f : Addr} {fd : FuncData} (F : FnP K "_law_low" (top 40) f fd) (hm : mg "_law_low" = some (.ref f)) (T : Tx tab K mg) (fs__law_gcd : FS P w K mg base "_law_gcd" 1 2 F__law_gcd) : FS P w K mg base "_law_low" 2 2 F__law_low := by
  refine fs_of (n := 3) (m := M__law_low) F sc__law_low rfl hm (F.bindsN fun _ _ _ _ _ _ us hl => match us, hl with | [_, _], _ => rfl) fun cdv A outer s H E hr => ?_
  have hu := hr.units
  have T_fok : XFs K tab.fok := T.fokE
  exact (ss_cons (st_set (i := 2) sc__law_low.nd rfl (.inl rfl) (s_call fs__law_gcd hr (by first | decide | omega) rfl rfl (s_acons (s_var (pv 0)) (s_acons (s_var (pv 1)) s_anil)) (hml := (la_cons (la_cons la_nil)))))
  (ss_cons (st_if (t_cmp o_lt (s_var (pv 1)) s_int (nomark _)) (ss_one (st_set (i := 2) sc__law_low.nd rfl (.inl rfl) (s_bin o_sub s_int (s_var (pv 2))))) ss_nil)
  (ss_one (st_ret (s_tup (s_acons (s_bin o_fdiv (s_var (pv 0)) (s_var (pv 2))) (s_acons (s_bin o_fdiv (s_var (pv 1)) (s_var (pv 2))) s_anil)))))))
theorem sc__law_chances : FnScope ["_law_stream_here", "_law_many", "_law_rows", "_law_left", "_law_k", "_law_n"] ["_law_stream_here", "_law_many"] (defScope (top 42)) := ⟨rfl, rfl, rfl, by decide +kernel, rfl, by decide +kernel, by decide +kernel⟩
theorem sim__law_chances {f : Addr} {fd : FuncData} (F : FnP K "_law_chances" (top 42) f fd) (hm : mg "_law_chances" = some (.ref f)) (T : Tx tab K mg) (fs__law_low : FS P w K mg base "_law_low" 2 2 F__law_low) (fs__law_next : FS P w K mg base "_law_next" 1 2 F__law_next) : FS P w K mg base "_law_chances" 3 2 F__law_chances := by
  refine fs_of (n := 6) (m := M__law_chances) F sc__law_chances rfl hm (F.bindsN fun _ _ _ _ _ _ us hl => match us, hl with | [_, _], _ => rfl) fun cdv A outer s H E hr => ?_
  have hu := hr.units
  have T_fok : XFs K tab.fok := T.fokE
  exact (ss_cons (st_set (i := 2) sc__law_chances.nd rfl (.inl rfl) (s_lst s_anil))
  (ss_cons (st_set (i := 3) sc__law_chances.nd rfl (.inl rfl) s_int)
  (ss_cons (st_for (passes_of rfl) rfl (si_range1 rfl (T.mn "range" (by decide)) (s_acons (s_bin o_sub (s_var (pv 1)) s_int) s_anil)) (sg_name (pg_name (i := 4) sc__law_chances.nd rfl (.inl rfl))) (ss_cons (st_set (i := 5) sc__law_chances.nd rfl (.inl rfl) (s_bin o_add s_int (s_call fs__law_next hr (by first | decide | omega) rfl rfl (s_acons (s_var (pv 0)) (s_acons (s_bin o_add (s_bin o_add (s_bin o_sub (s_var (pv 3)) (s_var (pv 1))) s_int) (s_var (pv 4))) s_anil)) (hml := (la_cons (la_cons la_nil))))))
  (ss_cons (st_expr (s_meth PySem.F.slot_list_append PySem.F.type_list_append m_append (s_var (pv 2)) (s_acons (s_call fs__law_low hr (by first | decide | omega) rfl rfl (s_acons (s_var (pv 5)) (s_acons s_int s_anil)) (hml := (la_cons (la_cons la_nil)))) s_anil)))
  (ss_one (st_set (i := 3) sc__law_chances.nd rfl (.inl rfl) (s_bin o_sub (s_var (pv 3)) (s_var (pv 5))))))))
  (ss_one (st_ret (s_bin o_add (s_var (pv 2)) (s_lst (s_acons (s_call fs__law_low hr (by first | decide | omega) rfl rfl (s_acons (s_var (pv 3)) (s_acons s_int s_anil)) (hml := (la_cons (la_cons la_nil)))) s_anil))))))))
theorem sc__law_any_point : FnScope ["_law_stream_here", "_law_exits", "_law_sizes", "_law_p", "_law_choices", "_law_size", "_law_pick", "_law_chances_here", "_law_called", "_law_amount", "_law_chance", "_law_k"] ["_law_stream_here", "_law_exits", "_law_sizes", "_law_p", "_law_choices"] (defScope (top 43)) := ⟨rfl, rfl, rfl, by decide +kernel, rfl, by decide +kernel, by decide +kernel⟩
theorem sim__law_any_point {f : Addr} {fd : FuncData} (F : FnP K "_law_any_point" (top 43) f fd) (hm : mg "_law_any_point" = some (.ref f)) (T : Tx tab K mg) (fs__law_next : FS P w K mg base "_law_next" 1 2 F__law_next) (fs__law_low : FS P w K mg base "_law_low" 2 2 F__law_low) (fs__law_chances : FS P w K mg base "_law_chances" 3 2 F__law_chances) : FS P w K mg base "_law_any_point" 4 5 F__law_any_point := by
  refine fs_of (n := 12) (m := M__law_any_point) F sc__law_any_point rfl hm (F.bindsN fun _ _ _ _ _ _ us hl => match us, hl with | [_, _, _, _, _], _ => rfl) fun cdv A outer s H E hr => ?_
  have hu := hr.units
  have T_fok : XFs K tab.fok := T.fokE
  exact (ss_cons (st_set (i := 5) sc__law_any_point.nd rfl (.inr rfl) (s_ix (s_var (pv 2)) (s_var (pv 3))))
  (ss_cons (st_set (i := 6) sc__law_any_point.nd rfl (.inl rfl) (s_call fs__law_next hr (by first | decide | omega) rfl rfl (s_acons (s_var (pv 0)) (s_acons s_int s_anil)) (hml := (la_cons (la_cons la_nil)))))
  (ss_cons (st_if (t_cmp o_lt (s_var (pv 6)) s_int (nomark _)) (ss_cons (st_set (i := 7) sc__law_any_point.nd rfl (.inl rfl) (s_call fs__law_chances hr (by first | decide | omega) rfl rfl (s_acons (s_var (pv 0)) (s_acons (s_bin o_add s_int (s_call fs__law_next hr (by first | decide | omega) rfl rfl (s_acons (s_var (pv 0)) (s_acons s_int s_anil)) (hml := (la_cons (la_cons la_nil))))) s_anil)) (hml := (la_cons (la_cons la_nil)))))
  (ss_one (st_ret (s_tup (s_acons s_str (s_acons (s_callTy c_tuple rfl (T.mn "tuple" (by decide)) (by decide +kernel) (s_acons (s_lc (own := [("_law_chance", 10)]) rfl rfl sc__law_any_point.nd (si_seq (s_var (pv 7))) (blkOk_by (N := ["_law_stream_here", "_law_exits", "_law_sizes", "_law_p", "_law_choices", "_law_size", "_law_pick", "_law_chances_here", "_law_called", "_law_amount", "_law_chance", "_law_k"]) (sc := defScope (top 43)) (own := [("_law_chance", 10)]) (by decide +kernel)) (gf_name (fun s H C cl fp => pg_name (i := 10) sc__law_any_point.nd rfl (.inl rfl)) (by decide)) tf_nil (fun s H C cl fp => (s_tup (s_acons (s_var (pv 10)) (s_acons (s_call fs__law_next hr (by first | decide | omega) rfl rfl (s_acons (s_var (pv 0)) (s_acons (s_var (pv 5)) s_anil)) (hml := (la_cons (la_cons la_nil)))) s_anil))))) s_anil)) s_anil)))))) ss_nil)
  (ss_cons (st_if (t_of_w (w_and (t_cmp (o_eq hu) (s_var (pv 6)) s_int (nomark _)) (w_and1 (t_truth (s_var (pv 4)))))) (ss_one (st_ret (s_tup (s_acons s_str (s_acons (s_callTy c_tuple rfl (T.mn "tuple" (by decide)) (by decide +kernel) (s_acons (s_lc (own := [("_law_k", 11)]) rfl rfl sc__law_any_point.nd (si_range1 rfl (T.mn "range" (by decide)) (s_acons (s_bin o_add s_int (s_call fs__law_next hr (by first | decide | omega) rfl rfl (s_acons (s_var (pv 0)) (s_acons s_int s_anil)) (hml := (la_cons (la_cons la_nil))))) s_anil)) (blkOk_by (N := ["_law_stream_here", "_law_exits", "_law_sizes", "_law_p", "_law_choices", "_law_size", "_law_pick", "_law_chances_here", "_law_called", "_law_amount", "_law_chance", "_law_k"]) (sc := defScope (top 43)) (own := [("_law_k", 11)]) (by decide +kernel)) (gf_name (fun s H C cl fp => pg_name (i := 11) sc__law_any_point.nd rfl (.inl rfl)) (by decide)) tf_nil (fun s H C cl fp => (s_call fs__law_next hr (by first | decide | omega) rfl rfl (s_acons (s_var (pv 0)) (s_acons (s_var (pv 5)) s_anil)) (hml := (la_cons (la_cons la_nil)))))) s_anil)) s_anil))))) ss_nil)
  (ss_cons (st_if (t_cmp o_lt (s_var (pv 6)) s_int (nomark _)) (ss_cons (st_set (i := 8) sc__law_any_point.nd rfl (.inl rfl) (s_call fs__law_next hr (by first | decide | omega) rfl rfl (s_acons (s_var (pv 0)) (s_acons (s_callB c_len rfl (T.mn "len" (by decide)) (by decide +kernel) (s_acons (s_var (pv 1)) s_anil)) s_anil)) (hml := (la_cons (la_cons la_nil)))))
  (ss_one (st_ret (s_tup (s_acons s_str (s_acons (s_var (pv 8)) (s_acons (s_callTy c_tuple rfl (T.mn "tuple" (by decide)) (by decide +kernel) (s_acons (s_lc (own := [("_law_k", 11)]) rfl rfl sc__law_any_point.nd (si_range1 rfl (T.mn "range" (by decide)) (s_acons (s_ix (s_var (pv 1)) (s_var (pv 8))) s_anil)) (blkOk_by (N := ["_law_stream_here", "_law_exits", "_law_sizes", "_law_p", "_law_choices", "_law_size", "_law_pick", "_law_chances_here", "_law_called", "_law_amount", "_law_chance", "_law_k"]) (sc := defScope (top 43)) (own := [("_law_k", 11)]) (by decide +kernel)) (gf_name (fun s H C cl fp => pg_name (i := 11) sc__law_any_point.nd rfl (.inl rfl)) (by decide)) tf_nil (fun s H C cl fp => (s_call fs__law_next hr (by first | decide | omega) rfl rfl (s_acons (s_var (pv 0)) (s_acons (s_var (pv 5)) s_anil)) (hml := (la_cons (la_cons la_nil)))))) s_anil)) s_anil))))))) ss_nil)
  (ss_cons (st_if (t_of_w (w_and (t_cmp (o_eq hu) (s_var (pv 6)) s_int (nomark _)) (w_and1 (t_cmp o_gt (s_ix (s_var (pv 1)) (s_var (pv 3))) s_int (nomark _))))) (ss_one (st_ret (s_tup (s_acons s_str (s_acons (s_call fs__law_next hr (by first | decide | omega) rfl rfl (s_acons (s_var (pv 0)) (s_acons (s_ix (s_var (pv 1)) (s_var (pv 3))) s_anil)) (hml := (la_cons (la_cons la_nil)))) s_anil))))) ss_nil)
  (ss_cons (st_if (t_cmp (o_eq hu) (s_var (pv 6)) s_int (nomark _)) (ss_cons (st_set (i := 9) sc__law_any_point.nd rfl (.inl rfl) (s_call fs__law_low hr (by first | decide | omega) rfl rfl (s_acons (s_call fs__law_next hr (by first | decide | omega) rfl rfl (s_acons (s_var (pv 0)) (s_acons s_int s_anil)) (hml := (la_cons (la_cons la_nil)))) (s_acons (s_bin o_add s_int (s_call fs__law_next hr (by first | decide | omega) rfl rfl (s_acons (s_var (pv 0)) (s_acons s_int s_anil)) (hml := (la_cons (la_cons la_nil))))) s_anil)) (hml := (la_cons (la_cons la_nil)))))
  (ss_one (st_ret (s_tup (s_acons s_str (s_acons (s_var (pv 9)) (s_acons (s_call fs__law_next hr (by first | decide | omega) rfl rfl (s_acons (s_var (pv 0)) (s_acons (s_var (pv 5)) s_anil)) (hml := (la_cons (la_cons la_nil)))) s_anil))))))) ss_nil)
  (ss_one (st_ret (s_ix (s_lst (s_acons (s_tup (s_acons s_str s_anil)) (s_acons (s_tup (s_acons s_str s_anil)) s_anil))) (s_call fs__law_next hr (by first | decide | omega) rfl rfl (s_acons (s_var (pv 0)) (s_acons s_int s_anil)) (hml := (la_cons (la_cons la_nil))))))))))))))
theorem sc__law_any : FnScope ["_law_stream_here", "_law_most", "_law_points_here", "_law_choices", "_law_exits", "_law_sizes", "_law_procedures", "_law_p", "_law_rows", "_law_k", "_law_one", "_law_i"] ["_law_stream_here", "_law_most", "_law_points_here", "_law_choices"] (defScope (top 44)) := ⟨rfl, rfl, rfl, by decide +kernel, rfl, by decide +kernel, by decide +kernel⟩
theorem sim__law_any {f : Addr} {fd : FuncData} (F : FnP K "_law_any" (top 44) f fd) (hm : mg "_law_any" = some (.ref f)) (T : Tx tab K mg) (fs__law_any_point : FS P w K mg base "_law_any_point" 4 5 F__law_any_point) (fs__law_next : FS P w K mg base "_law_next" 1 2 F__law_next) : FS P w K mg base "_law_any" 5 4 F__law_any := by
  refine fs_of (n := 12) (m := M__law_any) F sc__law_any rfl hm (F.bindsN fun _ _ _ _ _ _ us hl => match us, hl with | [_, _, _, _], _ => rfl) fun cdv A outer s H E hr => ?_
  have hu := hr.units
  have T_fok : XFs K tab.fok := T.fokE
  exact (ss_cons (st_set (i := 4) sc__law_any.nd rfl (.inr rfl) (s_lc (own := [("_law_k", 9)]) rfl rfl sc__law_any.nd (si_range1 rfl (T.mn "range" (by decide)) (s_acons (s_bin o_add s_int (s_call fs__law_next hr (by first | decide | omega) rfl rfl (s_acons (s_var (pv 0)) (s_acons (s_var (pv 1)) s_anil)) (hml := (la_cons (la_cons la_nil))))) s_anil)) (blkOk_by (N := ["_law_stream_here", "_law_most", "_law_points_here", "_law_choices", "_law_exits", "_law_sizes", "_law_procedures", "_law_p", "_law_rows", "_law_k", "_law_one", "_law_i"]) (sc := defScope (top 44)) (own := [("_law_k", 9)]) (by decide +kernel)) (gf_name (fun s H C cl fp => pg_name (i := 9) sc__law_any.nd rfl (.inl rfl)) (by decide)) tf_nil (fun s H C cl fp => (s_call fs__law_next hr (by first | decide | omega) rfl rfl (s_acons (s_var (pv 0)) (s_acons s_int s_anil)) (hml := (la_cons (la_cons la_nil)))))))
  (ss_cons (st_set (i := 5) sc__law_any.nd rfl (.inr rfl) (s_lc (own := [("_law_one", 10)]) rfl rfl sc__law_any.nd (si_seq (s_var (pv 4))) (blkOk_by (N := ["_law_stream_here", "_law_most", "_law_points_here", "_law_choices", "_law_exits", "_law_sizes", "_law_procedures", "_law_p", "_law_rows", "_law_k", "_law_one", "_law_i"]) (sc := defScope (top 44)) (own := [("_law_one", 10)]) (by decide +kernel)) (gf_name (fun s H C cl fp => pg_name (i := 10) sc__law_any.nd rfl (.inl rfl)) (by decide)) tf_nil (fun s H C cl fp => (s_bin o_add s_int (s_call fs__law_next hr (by first | decide | omega) rfl rfl (s_acons (s_var (pv 0)) (s_acons (s_var (pv 2)) s_anil)) (hml := (la_cons (la_cons la_nil))))))))
  (ss_cons (st_set (i := 6) sc__law_any.nd rfl (.inl rfl) (s_lst s_anil))
  (ss_cons (st_for (passes_of rfl) rfl (si_range1 rfl (T.mn "range" (by decide)) (s_acons (s_callB c_len rfl (T.mn "len" (by decide)) (by decide +kernel) (s_acons (s_var (pv 4)) s_anil)) s_anil)) (sg_name (pg_name (i := 7) sc__law_any.nd rfl (.inr rfl))) (ss_cons (st_setLc (i := 8) (own := [("_law_i", 11)]) rfl rfl sc__law_any.nd rfl rfl (si_range1 rfl (T.mn "range" (by decide)) (s_acons (s_ix (s_var (pv 5)) (s_var (pv 7))) s_anil)) (blkOk_by (N := ["_law_stream_here", "_law_most", "_law_points_here", "_law_choices", "_law_exits", "_law_sizes", "_law_procedures", "_law_p", "_law_rows", "_law_k", "_law_one", "_law_i"]) (sc := defScope (top 44)) (own := [("_law_i", 11)]) (by decide +kernel)) (gf_name (fun s H C cl fp => pg_name (i := 11) sc__law_any.nd rfl (.inl rfl)) (by decide)) tf_nil (fun s H C cl fp => (s_call fs__law_any_point hr (by first | decide | omega) rfl rfl (s_acons (s_var (pv 0)) (s_acons (s_var (pv 4)) (s_acons (s_var (pv 5)) (s_acons (s_var (pv 7)) (s_acons (s_var (pv 3)) s_anil))))) (hml := (la_cons (la_cons (la_cons (la_cons (la_cons la_nil)))))))))
  (ss_one (st_expr (s_meth PySem.F.slot_list_append PySem.F.type_list_append m_append (s_var (pv 6)) (s_acons (s_tup (s_acons (s_ix (s_var (pv 4)) (s_var (pv 7))) (s_acons (s_callTy c_tuple rfl (T.mn "tuple" (by decide)) (by decide +kernel) (s_acons (s_var (pv 8)) s_anil)) s_anil))) s_anil))))))
  (ss_one (st_ret (s_callTy c_tuple rfl (T.mn "tuple" (by decide)) (by decide +kernel) (s_acons (s_var (pv 6)) s_anil))))))))
theorem sc__law_stream : FnScope ["_law_script"] ["_law_script"] (defScope (top 36)) := ⟨rfl, rfl, rfl, by decide +kernel, rfl, by decide +kernel, by decide +kernel⟩
theorem sim__law_stream {f : Addr} {fd : FuncData} (F : FnP K "_law_stream" (top 36) f fd) (hm : mg "_law_stream" = some (.ref f)) (T : Tx tab K mg) : FS P w K mg base "_law_stream" 1 1 F__law_stream := by
  refine fs_of (n := 1) (m := M__law_stream) F sc__law_stream rfl hm (F.bindsN fun _ _ _ _ _ _ us hl => match us, hl with | [_], _ => rfl) fun cdv A outer s H E hr => ?_
  have hu := hr.units
  have T_fok : XFs K tab.fok := T.fokE
  exact (ss_one (st_ret (s_lst (s_acons (s_callTy c_list rfl (T.mn "list" (by decide)) (by decide +kernel) (s_acons (s_var (pv 0)) s_anil)) (s_acons s_int (s_acons s_int s_anil))))))
theorem sc_law : FnScope ["_law_script", "_law_stream_here", "_law_procedures", "_law_graph", "_law_place", "_law_due", "_law_turn", "_law_told"] ["_law_script"] (defScope (top 49)) := ⟨rfl, rfl, rfl, by decide +kernel, rfl, by decide +kernel, by decide +kernel⟩
theorem sim_law {f : Addr} {fd : FuncData} (F : FnP K "law" (top 49) f fd) (hm : mg "law" = some (.ref f)) (T : Tx tab K mg) (fs__law_places : FS P w K mg base "_law_places" 1 1 F__law_places) (fs__law_equal : FS P w K mg base "_law_equal" 8 2 F__law_equal) (fm_Graph_reached : FM P w K mg base "Graph" "reached" 7 2 F_Graph_reached) (fm_Graph_named : FM P w K mg base "Graph" "named" 6 2 F_Graph_named) (fs__law_reached : FS P w K mg base "_law_reached" 3 2 F__law_reached) (fs__law_named : FS P w K mg base "_law_named" 2 2 F__law_named) (fi_Graph : FI P w K mg base "Graph" 7 2 ["procedures"] F_Graph_init) (fs__law_any : FS P w K mg base "_law_any" 5 4 F__law_any) (fs__law_next : FS P w K mg base "_law_next" 1 2 F__law_next) (fs__law_stream : FS P w K mg base "_law_stream" 1 1 F__law_stream) : FnOk P w K mg base (L2.CX P w) 9 f fd ["_law_script"] (spF K mg 1 F_law) := by
  refine fn_sim (n := 8) (m := M_law) F sc_law rfl fun cdv A outer s H E hr => ?_
  have hu := hr.units
  have T_fok : XFs K tab.fok := T.fokE
  exact (ss_cons (st_set (i := 1) sc_law.nd rfl (.inl rfl) (s_call fs__law_stream hr (by first | decide | omega) rfl rfl (s_acons (s_var (pv 0)) s_anil) (hml := (la_cons la_nil))))
  (ss_cons (st_set (i := 2) sc_law.nd rfl (.inl rfl) (s_call fs__law_any hr (by first | decide | omega) rfl rfl (s_acons (s_var (pv 1)) (s_acons s_int (s_acons s_int (s_acons (s_cmp (o_eq hu) (s_call fs__law_next hr (by first | decide | omega) rfl rfl (s_acons (s_var (pv 1)) (s_acons s_int s_anil)) (hml := (la_cons (la_cons la_nil)))) s_int (nomark _)) s_anil)))) (hml := (la_cons (la_cons (la_cons (la_cons la_nil)))))))
  (ss_cons (st_set (i := 3) sc_law.nd rfl (.inl rfl) (s_mk1 fi_Graph hr (by first | decide | omega) rfl (s_var (pv 2))))
  (ss_cons (st_for (passes_of rfl) rfl (si_seq (s_call fs__law_places hr (by first | decide | omega) rfl rfl (s_acons (s_var (pv 2)) s_anil) (hml := (la_cons la_nil)))) (sg_name (pg_name (i := 4) sc_law.nd rfl (.inl rfl))) (ss_cons (st_set (i := 5) sc_law.nd rfl (.inl rfl) (s_lst (s_acons (s_call fs__law_named hr (by first | decide | omega) rfl rfl (s_acons (s_var (pv 2)) (s_acons (s_var (pv 4)) s_anil)) (hml := (la_cons (la_cons la_nil)))) (s_acons (s_call fs__law_reached hr (by first | decide | omega) rfl rfl (s_acons (s_var (pv 2)) (s_acons (s_var (pv 4)) s_anil)) (hml := (la_cons (la_cons la_nil)))) s_anil))))
  (ss_one (st_for (passes_of rfl) rfl (si_range1 rfl (T.mn "range" (by decide)) (s_acons s_int s_anil)) (sg_name (pg_name (i := 6) sc_law.nd rfl (.inl rfl))) (ss_cons (st_set (i := 7) sc_law.nd rfl (.inl rfl) (s_lst (s_acons (s_om fm_Graph_named hr (by first | decide | omega) rfl (s_var (pv 3)) (s_acons (s_var (pv 4)) s_anil) (la_cons la_nil)) (s_acons (s_om fm_Graph_reached hr (by first | decide | omega) rfl (s_var (pv 3)) (s_acons (s_var (pv 4)) s_anil) (la_cons la_nil)) s_anil))))
  (ss_cons (st_if (t_not (t_truth (s_call fs__law_equal hr (by first | decide | omega) rfl rfl (s_acons (s_var (pv 7)) (s_acons (s_var (pv 5)) s_anil)) (hml := (la_cons (la_cons la_nil)))))) (ss_one (st_ret s_bl)) ss_nil)
  (ss_cons (st_expr (s_meth PySem.F.slot_list_append PySem.F.type_list_append m_append (s_ix (s_var (pv 7)) s_int) (s_acons (s_tup (s_acons s_int (s_acons s_int s_anil))) s_anil)))
  (ss_one (st_expr (s_meth PySem.F.slot_list_append PySem.F.type_list_append m_append (s_ix (s_var (pv 7)) s_int) (s_acons (s_tup (s_acons s_int (s_acons s_int s_anil))) s_anil)))))))))))
  (ss_one (st_ret s_bl))))))
end
end Zl
namespace Zl
open PySem PySem.Spec PyProof.Rows L2 Z Zc
def fns : List He.DefD := [⟨("_law_places", none), "_law_places", "_law_places", defArgs (top 46), defBody (top 46), defScope (top 46), [], []⟩,
  ⟨("_law_is_integer", none), "_law_is_integer", "_law_is_integer", defArgs (top 38), defBody (top 38), defScope (top 38), [], []⟩,
  ⟨("_law_equal", none), "_law_equal", "_law_equal", defArgs (top 41), defBody (top 41), defScope (top 41), [], []⟩,
  ⟨("Graph", some "places"), "places", "Graph.places", defArgs (inClass (top 34) 2), defBody (inClass (top 34) 2), defScope (inClass (top 34) 2), [], []⟩,
  ⟨("points_of", none), "points_of", "points_of", defArgs (top 33), defBody (top 33), defScope (top 33), [], []⟩,
  ⟨("is_integer", none), "is_integer", "is_integer", defArgs (top 22), defBody (top 22), defScope (top 22), [], []⟩,
  ⟨("is_index", none), "is_index", "is_index", defArgs (top 24), defBody (top 24), defScope (top 24), [], []⟩,
  ⟨("Graph", some "is_place"), "is_place", "Graph.is_place", defArgs (inClass (top 34) 3), defBody (inClass (top 34) 3), defScope (inClass (top 34) 3), [], []⟩,
  ⟨("Graph", some "check_place"), "check_place", "Graph.check_place", defArgs (inClass (top 34) 4), defBody (inClass (top 34) 4), defScope (inClass (top 34) 4), [], []⟩,
  ⟨("Graph", some "point_at"), "point_at", "Graph.point_at", defArgs (inClass (top 34) 5), defBody (inClass (top 34) 5), defScope (inClass (top 34) 5), [], []⟩,
  ⟨("Graph", some "named"), "named", "Graph.named", defArgs (inClass (top 34) 7), defBody (inClass (top 34) 7), defScope (inClass (top 34) 7), [], []⟩,
  ⟨("Graph", some "reached"), "reached", "Graph.reached", defArgs (inClass (top 34) 8), defBody (inClass (top 34) 8), defScope (inClass (top 34) 8), [], []⟩,
  ⟨("_law_points", none), "_law_points", "_law_points", defArgs (top 45), defBody (top 45), defScope (top 45), [], []⟩,
  ⟨("_law_named", none), "_law_named", "_law_named", defArgs (top 47), defBody (top 47), defScope (top 47), [], []⟩,
  ⟨("_law_reached", none), "_law_reached", "_law_reached", defArgs (top 48), defBody (top 48), defScope (top 48), [], []⟩,
  ⟨("is_integer_rationals", none), "is_integer", "is_integer", defArgs (top 7), defBody (top 7), defScope (top 7), [], []⟩,
  ⟨("is_rational", none), "is_rational", "is_rational", defArgs (top 9), defBody (top 9), defScope (top 9), [], []⟩,
  ⟨("is_amount", none), "is_amount", "is_amount", defArgs (top 27), defBody (top 27), defScope (top 27), [], []⟩,
  ⟨("points_problem", none), "points_problem", "points_problem", defArgs (top 29), defBody (top 29), defScope (top 29), [], []⟩,
  ⟨("reduced", none), "reduced", "reduced", defArgs (top 10), defBody (top 10), defScope (top 10), [], []⟩,
  ⟨("plus", none), "plus", "plus", defArgs (top 11), defBody (top 11), defScope (top 11), [], []⟩,
  ⟨("is_chance", none), "is_chance", "is_chance", defArgs (top 26), defBody (top 26), defScope (top 26), [], []⟩,
  ⟨("draw_problem", none), "draw_problem", "draw_problem", defArgs (top 28), defBody (top 28), defScope (top 28), [], []⟩,
  ⟨("has_form", none), "has_form", "has_form", defArgs (top 25), defBody (top 25), defScope (top 25), [], []⟩,
  ⟨("point_problem", none), "point_problem", "point_problem", defArgs (top 30), defBody (top 30), defScope (top 30), [], []⟩,
  ⟨("check_procedure", none), "check_procedure", "check_procedure", defArgs (top 31), defBody (top 31), defScope (top 31), [], []⟩,
  ⟨("check_procedures", none), "check_procedures", "check_procedures", defArgs (top 32), defBody (top 32), defScope (top 32), [], []⟩,
  ⟨("Graph", some "__init__"), "__init__", "Graph.__init__", defArgs (inClass (top 34) 0), defBody (inClass (top 34) 0), defScope (inClass (top 34) 0), [], []⟩,
  ⟨("_law_next", none), "_law_next", "_law_next", defArgs (top 37), defBody (top 37), defScope (top 37), [], []⟩,
  ⟨("_law_gcd", none), "_law_gcd", "_law_gcd", defArgs (top 39), defBody (top 39), defScope (top 39), [], []⟩,
  ⟨("_law_low", none), "_law_low", "_law_low", defArgs (top 40), defBody (top 40), defScope (top 40), [], []⟩,
  ⟨("_law_chances", none), "_law_chances", "_law_chances", defArgs (top 42), defBody (top 42), defScope (top 42), [], []⟩,
  ⟨("_law_any_point", none), "_law_any_point", "_law_any_point", defArgs (top 43), defBody (top 43), defScope (top 43), [], []⟩,
  ⟨("_law_any", none), "_law_any", "_law_any", defArgs (top 44), defBody (top 44), defScope (top 44), [], []⟩,
  ⟨("_law_stream", none), "_law_stream", "_law_stream", defArgs (top 36), defBody (top 36), defScope (top 36), [], []⟩,
  ⟨("law", none), "law", "law", defArgs (top 49), defBody (top 49), defScope (top 49), [], []⟩,
  ⟨("BadValue", some "__init__"), "__init__", "BadValue.__init__", defArgs (inClass (top 4) 0), defBody (inClass (top 4) 0), defScope (inClass (top 4) 0), [], []⟩,
  ⟨("BadGraph", some "__init__"), "__init__", "BadGraph.__init__", defArgs (inClass (top 5) 0), defBody (inClass (top 5) 0), defScope (inClass (top 5) 0), [], []⟩]
abbrev R : PySem.W.OpenRow := PySem.W.OpenLaw.row PySem.Challenge.rw_oddscall_k16_named_and_reached
def loose : List PySem.Str := (["_wall", "__name__", "OddsError", "BadValue", "BadGraph", "is_integer", "is_integer_rationals", "is_rational", "reduced", "plus", "MOST_PROCEDURES", "MOST_EXITS", "MOST_POINTS", "MOST_IN_ALL", "MOST_BRANCHES", "MOST_DENOMINATOR", "MOST_AMOUNT", "MOST_AMOUNT_DENOMINATOR", "LENGTHS", "is_integer_graphs", "is_index", "has_form", "is_chance", "is_amount", "draw_problem", "points_problem", "point_problem", "check_procedure", "check_procedures", "points_of"] : List PySem.Str) ++ (["Graph", "_law_stream", "_law_next", "_law_is_integer", "_law_gcd", "_law_low", "_law_equal", "_law_chances", "_law_any_point", "_law_any", "_law_points", "_law_places", "_law_named", "_law_reached"] : List PySem.Str)
abbrev hk : PySem.W.Hook := hookZ 4 tab fns
def ob (s : PySem.W.SharedT) : He.AlT := obsZG 4 tab fns (HandSHeadRun.getT s)
theorem ob_eq (s : PySem.W.SharedT) : ob s = hk.obs s.abs := obsZG_eq (HandSHeadRun.getT_eq s)
theorem run_true (w : World) : HandSHeadRun.RunEqI R (PySem.W.view R.prog [0, 49]) hk ob 3000 loose (forkW true w) := by
  unfold HandSHeadRun.RunEqI
  kernel_rfl
theorem run_false (w : World) : HandSHeadRun.RunEqI R (PySem.W.view R.prog [0, 49]) hk ob 3000 loose (forkW false w) := by
  unfold HandSHeadRun.RunEqI
  kernel_rfl
theorem run (w : World) : HandSHeadRun.RunEqI R (PySem.W.view R.prog [0, 49]) hk ob 3000 loose w := fork_all (P := HandSHeadRun.RunEqI R (PySem.W.view R.prog [0, 49]) hk ob 3000 loose) (fun b w => match b with | true => run_true w | false => run_false w) w
theorem facts {P : Program} {w : World} {K : PySem.W.Frag} {h : Heap} {mg : Str → Option Value} {f : Addr} (X : K.In h) (G : h.Ns mainGlobals mg) (hfa : mg ("law" : Str) = some (.ref f)) (c : SaysZ tab fns w K) :
    ∃ fd : FuncData, (∀ (s : Shared) (v : Value), BindsTo s fd ⟨[v], []⟩ [("_law_script", v)]) ∧ ∀ base : Heap, FnOk P w K mg base (L2.CX P w) 9 f fd ["_law_script"] (spF K mg 1 F_law) := by
  have T : Tx tab K mg := Tab.tx c.tab X G
  obtain ⟨fd__law_places, D__law_places⟩ := c.def_ 0 rfl
  obtain ⟨fd__law_is_integer, D__law_is_integer⟩ := c.def_ 1 rfl
  obtain ⟨fd__law_equal, D__law_equal⟩ := c.def_ 2 rfl
  obtain ⟨fd_Graph_places, D_Graph_places⟩ := c.def_ 3 rfl
  obtain ⟨fd_points_of, D_points_of⟩ := c.def_ 4 rfl
  obtain ⟨fd_is_integer, D_is_integer⟩ := c.def_ 5 rfl
  obtain ⟨fd_is_index, D_is_index⟩ := c.def_ 6 rfl
  obtain ⟨fd_Graph_is_place, D_Graph_is_place⟩ := c.def_ 7 rfl
  obtain ⟨fd_Graph_check_place, D_Graph_check_place⟩ := c.def_ 8 rfl
  obtain ⟨fd_Graph_point_at, D_Graph_point_at⟩ := c.def_ 9 rfl
  obtain ⟨fd_Graph_named, D_Graph_named⟩ := c.def_ 10 rfl
  obtain ⟨fd_Graph_reached, D_Graph_reached⟩ := c.def_ 11 rfl
  obtain ⟨fd__law_points, D__law_points⟩ := c.def_ 12 rfl
  obtain ⟨fd__law_named, D__law_named⟩ := c.def_ 13 rfl
  obtain ⟨fd__law_reached, D__law_reached⟩ := c.def_ 14 rfl
  obtain ⟨fd_is_integer_rationals, D_is_integer_rationals⟩ := c.def_ 15 rfl
  obtain ⟨fd_is_rational, D_is_rational⟩ := c.def_ 16 rfl
  obtain ⟨fd_is_amount, D_is_amount⟩ := c.def_ 17 rfl
  obtain ⟨fd_points_problem, D_points_problem⟩ := c.def_ 18 rfl
  obtain ⟨fd_reduced, D_reduced⟩ := c.def_ 19 rfl
  obtain ⟨fd_plus, D_plus⟩ := c.def_ 20 rfl
  obtain ⟨fd_is_chance, D_is_chance⟩ := c.def_ 21 rfl
  obtain ⟨fd_draw_problem, D_draw_problem⟩ := c.def_ 22 rfl
  obtain ⟨fd_has_form, D_has_form⟩ := c.def_ 23 rfl
  obtain ⟨fd_point_problem, D_point_problem⟩ := c.def_ 24 rfl
  obtain ⟨fd_check_procedure, D_check_procedure⟩ := c.def_ 25 rfl
  obtain ⟨fd_check_procedures, D_check_procedures⟩ := c.def_ 26 rfl
  obtain ⟨fd_Graph_init, D_Graph_init⟩ := c.def_ 27 rfl
  obtain ⟨fd__law_next, D__law_next⟩ := c.def_ 28 rfl
  obtain ⟨fd__law_gcd, D__law_gcd⟩ := c.def_ 29 rfl
  obtain ⟨fd__law_low, D__law_low⟩ := c.def_ 30 rfl
  obtain ⟨fd__law_chances, D__law_chances⟩ := c.def_ 31 rfl
  obtain ⟨fd__law_any_point, D__law_any_point⟩ := c.def_ 32 rfl
  obtain ⟨fd__law_any, D__law_any⟩ := c.def_ 33 rfl
  obtain ⟨fd__law_stream, D__law_stream⟩ := c.def_ 34 rfl
  obtain ⟨fd_law, D_law⟩ := c.def_ 35 rfl
  have dic_LENGTHS : DicT K mg w "LENGTHS" [("exit", (.int 2)), ("draw", (.int 2)), ("choose", (.int 2)), ("call", (.int 3)), ("reward", (.int 3)), ("reject", (.int 1)), ("stop", (.int 1))] := T.dic c 0 "LENGTHS" _ rfl (by decide)
  have e := hfa.symm.trans (T.mc "law" (by decide))
  cases e
  obtain ⟨fdx_BadValue, Dx_BadValue⟩ := c.def_ 36 rfl
  have X_BadValue := T.xc "BadValue" ["name"] (by decide)
  obtain ⟨fdx_BadGraph, Dx_BadGraph⟩ := c.def_ 37 rfl
  have X_BadGraph := T.xc "BadGraph" ["where", "why"] (by decide)
  refine ⟨fd_law, fun s v => FunD.bindsA (ps := ["_law_script"]) D_law (fun _ _ _ _ _ _ us hl => match us, hl with | [_], _ => rfl) s [v] rfl, fun base => ?_⟩
  have xc_BadValue : XC P w K mg base "BadValue" 1 ["name"] := ⟨_, _, fdx_BadValue, ["self", "name"], rfl, T.mc "BadValue" (by decide), X_BadValue.oex, X_BadValue.iC, X_BadValue.tI, Dx_BadValue.bindsN (ps := ["self", "name"]) (fun _ _ _ _ _ _ us hl => match us, hl with | [_, _], _ => rfl), init1 Dx_BadValue (⟨rfl, rfl, rfl, by decide +kernel, rfl, by decide +kernel, by decide +kernel⟩ : FnScope ["self", "name"] ["self", "name"] (defScope (inClass (top 4) 0))) X_BadValue.oex (X_BadValue.no "name" (by decide)) (.inl rfl) (.inl rfl)⟩
  have xc_BadGraph : XC P w K mg base "BadGraph" 1 ["where", "why"] := ⟨_, _, fdx_BadGraph, ["self", "where", "why"], rfl, T.mc "BadGraph" (by decide), X_BadGraph.oex, X_BadGraph.iC, X_BadGraph.tI, Dx_BadGraph.bindsN (ps := ["self", "where", "why"]) (fun _ _ _ _ _ _ us hl => match us, hl with | [_, _, _], _ => rfl), init2 Dx_BadGraph (⟨rfl, rfl, rfl, by decide +kernel, rfl, by decide +kernel, by decide +kernel⟩ : FnScope ["self", "where", "why"] ["self", "where", "why"] (defScope (inClass (top 5) 0))) X_BadGraph.oex (X_BadGraph.no "where" (by decide)) (X_BadGraph.no "why" (by decide)) (.inl rfl) (.inl rfl) (.inl rfl)⟩
  have fs__law_places : FS P w K mg base "_law_places" 1 1 F__law_places := sim__law_places D__law_places (T.mc "_law_places" (by decide)) T   
  have fs__law_is_integer : FS P w K mg base "_law_is_integer" 1 1 F__law_is_integer := sim__law_is_integer D__law_is_integer (T.mc "_law_is_integer" (by decide)) T   
  have fs__law_equal : FS P w K mg base "_law_equal" 8 2 F__law_equal := sim__law_equal D__law_equal (T.mc "_law_equal" (by decide)) T fs__law_is_integer  
  have fm_Graph_places : FM P w K mg base "Graph" "places" 1 1 F_Graph_places := sim_Graph_places D_Graph_places T   
  have fs_points_of : FS P w K mg base "points_of" 1 1 F_points_of := sim_points_of D_points_of (T.mc "points_of" (by decide)) T   
  have fs_is_integer : FS P w K mg base "is_integer" 1 1 F_is_integer := sim_is_integer D_is_integer (T.mc "is_integer" (by decide)) T   
  have fs_is_index : FS P w K mg base "is_index" 2 2 F_is_index := sim_is_index D_is_index (T.mc "is_index" (by decide)) T fs_is_integer  
  have fm_Graph_is_place : FM P w K mg base "Graph" "is_place" 3 2 F_Graph_is_place := sim_Graph_is_place D_Graph_is_place T fs_is_index  
  have fm_Graph_check_place : FM P w K mg base "Graph" "check_place" 4 2 F_Graph_check_place := sim_Graph_check_place D_Graph_check_place T fm_Graph_is_place xc_BadValue 
  have fm_Graph_point_at : FM P w K mg base "Graph" "point_at" 5 2 F_Graph_point_at := sim_Graph_point_at D_Graph_point_at T fm_Graph_check_place  
  have fm_Graph_named : FM P w K mg base "Graph" "named" 6 2 F_Graph_named := sim_Graph_named D_Graph_named T fm_Graph_places fs_points_of fm_Graph_point_at  
  have fm_Graph_reached : FM P w K mg base "Graph" "reached" 7 2 F_Graph_reached := sim_Graph_reached D_Graph_reached T fm_Graph_named fm_Graph_check_place  
  have fs__law_points : FS P w K mg base "_law_points" 1 1 F__law_points := sim__law_points D__law_points (T.mc "_law_points" (by decide)) T   
  have fs__law_named : FS P w K mg base "_law_named" 2 2 F__law_named := sim__law_named D__law_named (T.mc "_law_named" (by decide)) T fs__law_places fs__law_points  
  have fs__law_reached : FS P w K mg base "_law_reached" 3 2 F__law_reached := sim__law_reached D__law_reached (T.mc "_law_reached" (by decide)) T fs__law_named  
  have fs_is_integer_rationals : FS P w K mg base "is_integer_rationals" 1 1 F_is_integer := sim_is_integer_rationals D_is_integer_rationals (T.mc "is_integer_rationals" (by decide)) T   
  have fs_is_rational : FS P w K mg base "is_rational" 2 1 F_is_rational := sim_is_rational D_is_rational (T.mc "is_rational" (by decide)) T fs_is_integer_rationals  
  have fs_is_amount : FS P w K mg base "is_amount" 3 1 F_is_amount := sim_is_amount D_is_amount (T.mc "is_amount" (by decide)) T fs_is_rational  
  have fs_points_problem : FS P w K mg base "points_problem" 3 2 F_points_problem := sim_points_problem D_points_problem (T.mc "points_problem" (by decide)) T fs_is_index  
  have fs_reduced : FS P w K mg base "reduced" 1 2 F_reduced := sim_reduced D_reduced (T.mc "reduced" (by decide)) T   
  have fs_plus : FS P w K mg base "plus" 2 2 F_plus := sim_plus D_plus (T.mc "plus" (by decide)) T fs_reduced  
  have fs_is_chance : FS P w K mg base "is_chance" 3 1 F_is_chance := sim_is_chance D_is_chance (T.mc "is_chance" (by decide)) T fs_is_rational  
  have fs_draw_problem : FS P w K mg base "draw_problem" 4 2 F_draw_problem := sim_draw_problem D_draw_problem (T.mc "draw_problem" (by decide)) T fs_plus fs_is_index fs_is_chance  
  have fs_has_form : FS P w K mg base "has_form" 2 1 F_has_form := sim_has_form D_has_form (T.mc "has_form" (by decide)) T fs_is_integer  dic_LENGTHS
  have fs_point_problem : FS P w K mg base "point_problem" 5 3 F_point_problem := sim_point_problem D_point_problem (T.mc "point_problem" (by decide)) T fs_is_amount fs_points_problem fs_is_index fs_draw_problem fs_has_form  
  have fs_check_procedure : FS P w K mg base "check_procedure" 3 2 F_check_procedure := sim_check_procedure D_check_procedure (T.mc "check_procedure" (by decide)) T fs_is_integer xc_BadGraph 
  have fs_check_procedures : FS P w K mg base "check_procedures" 6 1 F_check_procedures := sim_check_procedures D_check_procedures (T.mc "check_procedures" (by decide)) T fs_point_problem fs_check_procedure xc_BadGraph 
  have fi_Graph : FI P w K mg base "Graph" 7 2 ["procedures"] F_Graph_init := sim_Graph_init D_Graph_init T fs_check_procedures  
  have fs__law_next : FS P w K mg base "_law_next" 1 2 F__law_next := sim__law_next D__law_next (T.mc "_law_next" (by decide)) T   
  have fs__law_gcd : FS P w K mg base "_law_gcd" 1 2 F__law_gcd := sim__law_gcd D__law_gcd (T.mc "_law_gcd" (by decide)) T   
  have fs__law_low : FS P w K mg base "_law_low" 2 2 F__law_low := sim__law_low D__law_low (T.mc "_law_low" (by decide)) T fs__law_gcd  
  have fs__law_chances : FS P w K mg base "_law_chances" 3 2 F__law_chances := sim__law_chances D__law_chances (T.mc "_law_chances" (by decide)) T fs__law_low fs__law_next  
  have fs__law_any_point : FS P w K mg base "_law_any_point" 4 5 F__law_any_point := sim__law_any_point D__law_any_point (T.mc "_law_any_point" (by decide)) T fs__law_next fs__law_low fs__law_chances  
  have fs__law_any : FS P w K mg base "_law_any" 5 4 F__law_any := sim__law_any D__law_any (T.mc "_law_any" (by decide)) T fs__law_any_point fs__law_next  
  have fs__law_stream : FS P w K mg base "_law_stream" 1 1 F__law_stream := sim__law_stream D__law_stream (T.mc "_law_stream" (by decide)) T   
  exact sim_law D_law hfa T fs__law_places fs__law_equal fm_Graph_reached fm_Graph_named fs__law_reached fs__law_named fi_Graph fs__law_any fs__law_next fs__law_stream  
end Zl
/-! P1: plain data: none, ints, texts, tuples of such; when two are equal, and in. -/
namespace Z
open PySem PySem.Spec PyProof.Rows L2
/-- plain, to the depth k -/
def pln : Nat → D → Bool
  | 0, _ => false
  | k + 1, d => match d with
    | .non => true
    | .int _ => true
    | .str x => PyData.strOk x
    | .tup ds => ds.all (pln k)
    | _ => false
theorem pdL_nil {f : D → Option PyData} : pdL f [] = some [] := rfl
theorem pdL_cons {f : D → Option PyData} {d : D} {ds : List D} {p : PyData} {ps : List PyData} (h1 : f d = some p) (h2 : pdL f ds = some ps) : pdL f (d :: ds) = some (p :: ps) := by
  unfold pdL
  rw [h1, h2]
theorem pd_pln (h : IH) : ∀ (k : Nat) (d : D), pln k d = true → ∃ p, pd k h d = some p ∧ p.canLay0 = true ∧ p.depth ≤ k
  | 0, _, e => by cases e
  | k + 1, d, e => by
    cases d with
    | non => exact ⟨.none, rfl, by simp [PyData.canLay0], by simp [PyData.depth]⟩
    | int i => exact ⟨.int i, rfl, by simp [PyData.canLay0], by simp [PyData.depth]⟩
    | str x => exact ⟨.str x, rfl, by simp [PyData.canLay0]; exact e, by simp [PyData.depth]⟩
    | tup ds =>
      have e : ds.all (pln k) = true := e
      have key : ∀ ds : List D, ds.all (pln k) = true → ∃ ps, pdL (pd k h) ds = some ps ∧ PyData.canLayAll0 ps = true ∧ PyData.depthAll ps ≤ k := by
        intro ds
        induction ds with
        | nil => exact fun _ => ⟨[], rfl, by simp [PyData.canLayAll0], by simp [PyData.depthAll]⟩
        | cons d ds ih =>
          intro e
          rw [List.all_cons, Bool.and_eq_true] at e
          obtain ⟨p, h1, h2, h3⟩ := pd_pln h k d e.1
          obtain ⟨ps, g1, g2, g3⟩ := ih e.2
          exact ⟨p :: ps, pdL_cons h1 g1, by simp [PyData.canLayAll0, h2, g2], by simp [PyData.depthAll]; omega⟩
      obtain ⟨ps, h1, h2, h3⟩ := key ds e
      refine ⟨PyData.tuple ps, ?_, by simp [PyData.canLay0, h2], by simp [PyData.depth]; omega⟩
      show (pdL (pd k h) ds).map PyData.tuple = some (PyData.tuple ps)
      rw [h1]; rfl
    | bl b => cases e
    | ref n => cases e
    | fz ds => cases e
    | xv => cases e
theorem eqv_pln (h : IH) : ∀ (k : Nat) (d e : D) (p q : PyData), pln k d = true → pln k e = true → pd k h d = some p → pd k h e = some q → (PyData.eqv p q = true ↔ d = e)
  | 0, _, _, _, _, c, _, _, _ => by cases c
  | k + 1, d, e, p, q, c1, c2, e1, e2 => by
    have key : ∀ (ds es : List D) (ps qs : List PyData), ds.all (pln k) = true → es.all (pln k) = true → pdL (pd k h) ds = some ps → pdL (pd k h) es = some qs → (PyData.eqvAll ps qs = true ↔ ds = es) := by
      intro ds
      induction ds with
      | nil =>
        intro es ps qs _ c2 e1 e2
        cases e1
        cases es with
        | nil => cases e2; simp [PyData.eqvAll]
        | cons x xs =>
          unfold pdL at e2
          split at e2
          · cases e2; simp [PyData.eqvAll]
          · cases e2
      | cons d ds ih =>
        intro es ps qs c1 c2 e1 e2
        unfold pdL at e1
        split at e1
        · rename_i p0 ps0 f1 f2
          cases e1
          cases es with
          | nil => cases e2; simp [PyData.eqvAll]
          | cons x xs =>
            unfold pdL at e2
            split at e2
            · rename_i q0 qs0 g1 g2
              cases e2
              rw [List.all_cons, Bool.and_eq_true] at c1 c2
              have r1 := eqv_pln h k d x p0 q0 c1.1 c2.1 f1 g1
              have r2 := ih xs ps0 qs0 c1.2 c2.2 f2 g2
              simp only [PyData.eqvAll, Bool.and_eq_true, r1, r2, List.cons.injEq]
            · cases e2
        · cases e1
    have tup : ∀ {ds : List D} {p : PyData}, pd (k + 1) h (.tup ds) = some p → ∃ ps, pdL (pd k h) ds = some ps ∧ p = .tuple ps := fun {ds p} e => by
      obtain ⟨ps, f1, f2⟩ := Option.map_eq_some_iff.mp (show (pdL (pd k h) ds).map PyData.tuple = some p from e)
      exact ⟨ps, f1, f2.symm⟩
    cases d with
    | non =>
      cases e1
      cases e with
      | non => cases e2; simp [PyData.eqv]
      | int i => cases e2; simp [PyData.eqv]
      | str x => cases e2; simp [PyData.eqv]
      | tup ds => obtain ⟨qs, _, rfl⟩ := tup e2; simp [PyData.eqv]
      | _ => cases c2
    | int i =>
      cases e1
      cases e with
      | non => cases e2; simp [PyData.eqv]
      | int i => cases e2; simp [PyData.eqv]
      | str x => cases e2; simp [PyData.eqv]
      | tup ds => obtain ⟨qs, _, rfl⟩ := tup e2; simp [PyData.eqv]
      | _ => cases c2
    | str x =>
      cases e1
      cases e with
      | non => cases e2; simp [PyData.eqv]
      | int i => cases e2; simp [PyData.eqv]
      | str x => cases e2; simp [PyData.eqv]
      | tup ds => obtain ⟨qs, _, rfl⟩ := tup e2; simp [PyData.eqv]
      | _ => cases c2
    | tup ds =>
      obtain ⟨ps, f1, rfl⟩ := tup e1
      cases e with
      | non => cases e2; simp [PyData.eqv]
      | int i => cases e2; simp [PyData.eqv]
      | str x => cases e2; simp [PyData.eqv]
      | tup es =>
        obtain ⟨qs, g1, rfl⟩ := tup e2
        have := key ds es ps qs c1 c2 f1 g1
        simp only [PyData.eqv, this, D.tup.injEq]
      | _ => cases c2
    | _ => cases c1
theorem pln_shaped {h : IH} {d : D} (c : pln 16 d = true) : ∃ p, pd pdK h d = some p ∧ SeqAt.shaped p = true := by
  obtain ⟨p, h1, h2, h3⟩ := pd_pln h 16 d c
  refine ⟨p, h1, ?_⟩
  unfold SeqAt.shaped
  rw [h2, decide_eq_true (by omega)]
  rfl
theorem eqB_pln {h : IH} {d e : D} (c1 : pln 16 d = true) (c2 : pln 16 e = true) : ∃ b, eqB h d e = some b ∧ (b = true ↔ d = e) := by
  obtain ⟨p, h1, h2⟩ := pln_shaped (h := h) c1
  obtain ⟨q, g1, g2⟩ := pln_shaped (h := h) c2
  refine ⟨PyData.eqv p q, ?_, eqv_pln h 16 d e p q c1 c2 h1 g1⟩
  unfold eqB
  rw [h1, g1]
  exact if_pos ⟨h2, g2⟩
open Classical in
theorem eqB_pl {h : IH} {d e : D} (c1 : pln 16 d = true) (c2 : pln 16 e = true) : eqB h d e = some (decide (d = e)) := by
  obtain ⟨b, h1, h2⟩ := eqB_pln (h := h) c1 c2
  rw [h1]
  congr 1
  by_cases c : d = e
  · rw [decide_eq_true c]; exact h2.mpr c
  · rw [decide_eq_false c]
    cases b with
    | false => rfl
    | true => exact absurd (h2.mp rfl) c
open Classical in
theorem eqM_pl {h : IH} {d e : D} (c1 : pln 16 d = true) (c2 : pln 16 e = true) : eqM d e h = .ok (.bl (decide (d = e))) h := by
  unfold eqM
  rw [eqB_pl c1 c2]
open Classical in
theorem neM_pl {h : IH} {d e : D} (c1 : pln 16 d = true) (c2 : pln 16 e = true) : neM d e h = .ok (.bl (!decide (d = e))) h := by
  unfold neM
  rw [eqB_pl c1 c2]
open Classical in
theorem eqM_same {h : IH} {d : D} (c : pln 16 d = true) : eqM d d h = .ok (.bl true) h := by
  rw [eqM_pl c c, decide_eq_true rfl]
open Classical in
theorem neM_same {h : IH} {d : D} (c : pln 16 d = true) : neM d d h = .ok (.bl false) h := by
  rw [neM_pl c c, decide_eq_true rfl]; rfl
theorem pdL_pln {h : IH} : ∀ {ds : List D}, ds.all (pln 16) = true → ∃ ps, pdL (pd pdK h) ds = some ps ∧ PyData.canLayAll0 ps = true ∧ PyData.depthAll ps ≤ 16 ∧ ∀ (d : D) (p : PyData), pln 16 d = true → pd pdK h d = some p → (ps.any (fun z => PyData.eqv z p) = true ↔ d ∈ ds)
  | [], _ => ⟨[], rfl, by simp [PyData.canLayAll0], by simp [PyData.depthAll], fun d p _ _ => by simp⟩
  | e :: ds, c => by
    rw [List.all_cons, Bool.and_eq_true] at c
    obtain ⟨q, h1, h2, h3⟩ := pd_pln h 16 e c.1
    obtain ⟨ps, g1, g2, g3, g4⟩ := pdL_pln (h := h) c.2
    refine ⟨q :: ps, pdL_cons h1 g1, by simp [PyData.canLayAll0, h2, g2], by simp [PyData.depthAll]; omega, fun d p cd hp => ?_⟩
    rw [List.any_cons, Bool.or_eq_true, g4 d p cd hp, List.mem_cons, eqv_pln h 16 e d q p c.1 cd h1 hp]
    exact or_congr_left ⟨fun z => z.symm, fun z => z.symm⟩
theorem shaped_list {ps : List PyData} (h1 : PyData.canLayAll0 ps = true) (h2 : PyData.depthAll ps ≤ 16) : SeqAt.shaped (.list ps) = true := by
  unfold SeqAt.shaped
  have e1 : (PyData.list ps).canLay0 = true := by simp [PyData.canLay0, h1]
  have e2 : (PyData.list ps).depth ≤ 64 := by simp [PyData.depth]; omega
  rw [e1, decide_eq_true e2]
  rfl
open Classical in
/-- x in a list -/
theorem inM_pl {h : IH} {d e : D} {xs : List D} {n : Bool} (he : lisOf h e = some xs) (c1 : pln 16 d = true) (c2 : xs.all (pln 16) = true) : inM n d e h = .ok (.bl (xor n (decide (d ∈ xs)))) h := by
  obtain ⟨p, h1, h2⟩ := pln_shaped (h := h) c1
  obtain ⟨ps, g1, g2, g3, g4⟩ := pdL_pln (h := h) c2
  have nt : inT d e = none := by
    cases e with
    | tup ds => cases he
    | _ => rfl
  have hb : inB h d e = some (decide (d ∈ xs)) := by
    unfold inB
    rw [h1, he]
    show (match some p, (some xs).bind fun xs => pdL (pd pdK h) xs with
      | some p, some qs => if SeqAt.shaped p = true ∧ SeqAt.shaped (.list qs) = true then some (qs.any fun z => PyData.eqv z p) else none
      | _, _ => none) = _
    rw [Option.bind_some, g1]
    show (if SeqAt.shaped p = true ∧ SeqAt.shaped (.list ps) = true then some (ps.any fun z => PyData.eqv z p) else none) = _
    rw [if_pos ⟨h2, shaped_list g2 g3⟩]
    congr 1
    rw [Bool.eq_iff_iff, g4 d p c1 h1, decide_eq_true_eq]
  unfold inM
  rw [nt, hb]
  cases n <;> cases decide (d ∈ xs) <;> rfl
open Classical in
/-- two lists of plain things -/
theorem eqB_lis {h : IH} {d e : D} {xs ys : List D} (hd : lisOf h d = some xs) (he : lisOf h e = some ys) (c1 : xs.all (pln 15) = true) (c2 : ys.all (pln 15) = true) : eqB h d e = some (decide (xs = ys)) := by
  have lis : ∀ {d : D} {xs : List D}, lisOf h d = some xs → pd pdK h d = (pdL (pd 15 h) xs).map PyData.list := fun {d xs} e => by
    cases d with
    | fz ds => cases e; rfl
    | ref n =>
      have e : (match h[n]? with
        | some (.lst ds) => some ds
        | _ => none) = some xs := e
      split at e
      · rename_i ds hn
        cases e
        show (match h[n]? with
          | some (.lst ds) => (pdL (pd 15 h) ds).map PyData.list
          | _ => none) = _
        rw [hn]
      · cases e
    | _ => cases e
  have key : ∀ xs : List D, xs.all (pln 15) = true → ∃ ps, pdL (pd 15 h) xs = some ps ∧ PyData.canLayAll0 ps = true ∧ PyData.depthAll ps ≤ 16 := by
    intro xs
    induction xs with
    | nil => exact fun _ => ⟨[], rfl, by simp [PyData.canLayAll0], by simp [PyData.depthAll]⟩
    | cons d ds ih =>
      intro e
      rw [List.all_cons, Bool.and_eq_true] at e
      obtain ⟨p, h1, h2, h3⟩ := pd_pln h 15 d e.1
      obtain ⟨ps, g1, g2, g3⟩ := ih e.2
      exact ⟨p :: ps, pdL_cons h1 g1, by simp [PyData.canLayAll0, h2, g2], by simp [PyData.depthAll]; omega⟩
  obtain ⟨ps, p1, p2, p3⟩ := key xs c1
  obtain ⟨qs, q1, q2, q3⟩ := key ys c2
  -- read them as tuples
  have t1 : pd 16 h (.tup xs) = some (.tuple ps) := by show (pdL (pd 15 h) xs).map PyData.tuple = _; rw [p1]; rfl
  have t2 : pd 16 h (.tup ys) = some (.tuple qs) := by show (pdL (pd 15 h) ys).map PyData.tuple = _; rw [q1]; rfl
  have t3 := eqv_pln h 16 (.tup xs) (.tup ys) _ _ c1 c2 t1 t2
  unfold eqB
  rw [lis hd, lis he, p1, q1]
  show (if SeqAt.shaped (.list ps) = true ∧ SeqAt.shaped (.list qs) = true then some (PyData.eqv (.list ps) (.list qs)) else none) = _
  rw [if_pos ⟨shaped_list p2 p3, shaped_list q2 q3⟩]
  congr 1
  rw [Bool.eq_iff_iff, decide_eq_true_eq]
  have t4 : PyData.eqv (.list ps) (.list qs) = PyData.eqv (.tuple ps) (.tuple qs) := by simp [PyData.eqv]
  rw [t4, t3, D.tup.injEq]
open Classical in
theorem eqM_lis {h : IH} {d e : D} {xs ys : List D} (hd : lisOf h d = some xs) (he : lisOf h e = some ys) (c1 : xs.all (pln 15) = true) (c2 : ys.all (pln 15) = true) : eqM d e h = .ok (.bl (decide (xs = ys))) h := by
  unfold eqM
  rw [eqB_lis hd he c1 c2]
theorem lisOf_ref {h : IH} {n : Nat} {xs : List D} (e : h[n]? = some (.lst xs)) : lisOf h (.ref n) = some xs := by
  show (match h[n]? with
    | some (.lst ds) => some ds
    | _ => none) = _
  rw [e]
end Z
/-! Q1: plain mathematics: sizes, fractions, the steps of Euclid. -/
namespace Q
/-- of at most k bits -/
def Bit (k : Nat) (x : Int) : Prop := x.natAbs < 2 ^ k
theorem Bit.mono {j k : Nat} {x : Int} (h : Bit j x) (c : j ≤ k) : Bit k x := Nat.lt_of_lt_of_le h (Nat.pow_le_pow_right (by decide) c)
theorem Bit.mul {j k : Nat} {x y : Int} (h : Bit j x) (g : Bit k y) : Bit (j + k) (x * y) := by
  unfold Bit
  rw [Int.natAbs_mul, Nat.pow_add]
  exact Nat.mul_lt_mul'' h g
theorem Bit.neg {k : Nat} {x : Int} (h : Bit k x) : Bit k (-x) := by unfold Bit; rw [Int.natAbs_neg]; exact h
theorem Bit.add {k : Nat} {x y : Int} (h : Bit k x) (g : Bit k y) : Bit (k + 1) (x + y) := by
  unfold Bit at *
  have := Int.natAbs_add_le x y
  rw [Nat.pow_succ]
  omega
theorem Bit.sub {k : Nat} {x y : Int} (h : Bit k x) (g : Bit k y) : Bit (k + 1) (x - y) := by
  rw [Int.sub_eq_add_neg]
  exact h.add g.neg
theorem Bit.le {k : Nat} {x y : Int} (h : Bit k y) (c : x.natAbs ≤ y.natAbs) : Bit k x := Nat.lt_of_le_of_lt c h
theorem log2_lt {n k : Nat} (h : n < 2 ^ k) (hk : 0 < k) : n.log2 < k := by
  by_cases c : n = 0
  · subst c; simpa using hk
  · exact (Nat.log2_lt c).mpr h
theorem Bit.log {k : Nat} {x : Int} (h : Bit k x) (hk : 0 < k) : x.natAbs.log2 < k := log2_lt h hk
theorem bit_nat {k n : Nat} (h : n < 2 ^ k) : Bit k (n : Int) := by unfold Bit; simpa using h
theorem Bit.pos {k : Nat} {x : Int} (h0 : 0 ≤ x) (h : x < 2 ^ k) : Bit k x := by
  unfold Bit
  have e : ((2 ^ k : Nat) : Int) = 2 ^ k := by simp
  omega
theorem Bit.lt {k : Nat} {x : Int} (h : Bit k x) : x < 2 ^ k := by
  unfold Bit at h
  have e : ((2 ^ k : Nat) : Int) = 2 ^ k := by simp
  omega
/-! ### fractions -/
/-- lowest terms -/
def IsRat (p : Int × Int) : Prop := 0 < p.2 ∧ Int.gcd p.1 p.2 = 1
def red (n d : Int) : Int × Int := (n / (Int.gcd n d : Int), d / (Int.gcd n d : Int))
section
variable {n d : Int}
theorem gcd_pos (hd : d ≠ 0) : (0 : Int) < Int.gcd n d := by
  have : 0 < Int.gcd n d := Nat.gcd_pos_of_pos_right _ (by omega)
  omega
theorem red_num (hd : d ≠ 0) : (red n d).1 * (Int.gcd n d : Int) = n := Int.ediv_mul_cancel (Int.gcd_dvd_left ..)
theorem red_den (hd : d ≠ 0) : (red n d).2 * (Int.gcd n d : Int) = d := Int.ediv_mul_cancel (Int.gcd_dvd_right ..)
theorem red_eq (hd : d ≠ 0) : (red n d).1 * d = (red n d).2 * n := by
  have h1 := red_num (n := n) hd
  have h2 := red_den (n := n) hd
  calc (red n d).1 * d = (red n d).1 * ((red n d).2 * (Int.gcd n d : Int)) := by rw [h2]
    _ = (red n d).2 * ((red n d).1 * (Int.gcd n d : Int)) := by rw [← Int.mul_assoc, Int.mul_comm (red n d).1, Int.mul_assoc]
    _ = (red n d).2 * n := by rw [h1]
theorem red_rat (hd : 0 < d) : IsRat (red n d) := by
  have hd0 : d ≠ 0 := by omega
  have g := gcd_pos (n := n) hd0
  constructor
  · have h2 := red_den (n := n) hd0
    by_cases c : 0 < (red n d).2
    · exact c
    · have : (red n d).2 * (Int.gcd n d : Int) ≤ 0 := Int.mul_nonpos_of_nonpos_of_nonneg (by omega) (by omega)
      omega
  · show Int.gcd (n / _) (d / _) = 1
    have hg : 0 < Int.gcd n d := by omega
    exact Int.gcd_ediv_gcd_ediv_gcd hg
theorem red_small : (red n d).1.natAbs ≤ n.natAbs ∧ (red n d).2.natAbs ≤ d.natAbs := by
  constructor
  · show (n / _).natAbs ≤ _
    exact Int.natAbs_ediv_le_natAbs ..
  · show (d / _).natAbs ≤ _
    exact Int.natAbs_ediv_le_natAbs ..
end
theorem dvd_cop {a b c : Int} (h : a ∣ b * c) (g : Int.gcd a b = 1) : a ∣ c := by
  have h1 : a.natAbs ∣ b.natAbs * c.natAbs := by rw [← Int.natAbs_mul]; exact Int.natAbs_dvd_natAbs.mpr h
  exact Int.natAbs_dvd_natAbs.mp (Nat.Coprime.dvd_of_dvd_mul_left (show Nat.Coprime a.natAbs b.natAbs from g) h1)
/-- a fraction in lowest terms is the one -/
theorem rat_unique {p q : Int × Int} (hp : IsRat p) (hq : IsRat q) (e : p.1 * q.2 = q.1 * p.2) : p = q := by
  obtain ⟨p1, p2⟩ := p
  obtain ⟨q1, q2⟩ := q
  obtain ⟨h1, h2⟩ := hp
  obtain ⟨h3, h4⟩ := hq
  dsimp only at *
  have d1 : p2 ∣ q2 := by
    have : p2 ∣ p1 * q2 := ⟨q1, by rw [e, Int.mul_comm]⟩
    exact dvd_cop this (by rw [Int.gcd_comm]; exact h2)
  have d2 : q2 ∣ p2 := by
    have : q2 ∣ q1 * p2 := ⟨p1, by rw [← e, Int.mul_comm]⟩
    exact dvd_cop this (by rw [Int.gcd_comm]; exact h4)
  have e2 : p2 = q2 := Int.dvd_antisymm (by omega) (by omega) d1 d2
  subst e2
  have : p1 = q1 := Int.eq_of_mul_eq_mul_right (by omega) e
  rw [this]
/-! ### Euclid's steps -/
/-- as many turns are enough -/
def steps (b : Nat) : Nat := 2 * (b.log2 + 1)
theorem euclid_half {a b : Nat} (h1 : a % b ≠ 0) (hb : 0 < b) : 2 * (b % (a % b)) < b := by
  have h2 : a % b < b := Nat.mod_lt _ hb
  have h3 : b % (a % b) < a % b := Nat.mod_lt _ (by omega)
  by_cases c : 2 * (a % b) ≤ b
  · omega
  · have : b % (a % b) = b - a % b := by
      rw [Nat.mod_eq_sub_mod (by omega), Nat.mod_eq_of_lt (by omega)]
    omega
theorem log2_half {m n : Nat} (h : 2 * m < n) (hm : m ≠ 0) : m.log2 + 1 ≤ n.log2 := by
  have h1 := Nat.log2_self_le hm
  have : 2 ^ (m.log2 + 1) ≤ n := by rw [Nat.pow_succ]; omega
  exact (Nat.le_log2 (by omega)).mpr this
end Q
/-! C1L: what the common defs answer. -/
namespace Zc
open PySem L2 Z Q
theorem small_of {a b : Nat} {x y : Int} (hx : Bit a x) (hy : Bit b y) (h : a + b ≤ 900000 := by decide) (ha : 0 < a := by decide) (hb : 0 < b := by decide) : small x y := by
  have h1 := hx.log ha
  have h2 := hy.log hb
  show _ + _ < 1000000
  omega
theorem fdivM_pos {x y : Int} {h : IH} (h0 : 0 < y) {k : Nat} (c : Bit k y) (hk : k ≤ 9000 := by decide) (hk0 : 0 < k := by decide) : fdivM (.int x) (.int y) h = .ok (.int (x / y)) h := by
  rw [fdivM_int (by omega) (Nat.lt_of_lt_of_le (c.log hk0) hk), Int.fdiv_eq_ediv_of_nonneg _ (by omega)]
theorem modM_pos {x y : Int} {h : IH} (h0 : 0 < y) : modM (.int x) (.int y) h = .ok (.int (x % y)) h := by
  rw [modM_int (by omega), Int.fmod_eq_emod_of_nonneg _ (by omega)]
section
variable {h : IH} {n d : Int}
theorem ev_is_integer : F_is_integer [.int n] h = .ok (.bl true) h := by simp [F_is_integer, M_is_integer, defM]
theorem ev_is_integer_bl {b : Bool} : F_is_integer [.bl b] h = .ok (.bl false) h := by simp [F_is_integer, M_is_integer, defM]
theorem ev_is_integer_str {x : Str} : F_is_integer [.str x] h = .ok (.bl false) h := by simp [F_is_integer, M_is_integer, defM]
theorem ev_law_is_integer : F__law_is_integer [.int n] h = .ok (.bl true) h := by simp [F__law_is_integer, M__law_is_integer, defM]
theorem ev_is_rational : F_is_rational [.tup [.int n, .int d]] h = .ok (.bl (decide (0 < d) && decide (Int.gcd n d = 1))) h := by
  by_cases c : 0 < d
  · simp [F_is_rational, M_is_rational, defM, ev_is_integer, c, Int.gcd]
    by_cases c2 : n.natAbs.gcd d.natAbs = 1
    · simp [c2]
    · have : ¬ ((n.natAbs.gcd d.natAbs : Nat) : Int) = 1 := by omega
      simp [c2, this]
  · simp [F_is_rational, M_is_rational, defM, ev_is_integer, c]
theorem ev_reduced {k : Nat} (hd : 0 < d) (hs : Bit k d) (hk : k ≤ 9000 := by decide) (hk0 : 0 < k := by decide) : F_reduced [.int n, .int d] h = .ok (.tup [.int (red n d).1, .int (red n d).2]) h := by
  have g0 := gcd_pos (n := n) (d := d) (by omega)
  have g1 : Bit k (Int.gcd n d : Int) := hs.le (by
    have : Int.gcd n d ≤ d.natAbs := Nat.le_of_dvd (by omega) (Nat.gcd_dvd_right ..)
    simpa using this)
  have e1 := fun x h => fdivM_pos (x := x) (h := h) g0 g1 hk hk0
  have eg : ((Nat.gcd n.natAbs d.natAbs : Nat) : Int) = (Int.gcd n d : Int) := rfl
  simp [F_reduced, M_reduced, defM, tupM_eq, eg, e1, red]
theorem ev_ratio {k : Nat} (hd : 0 < d) (hs : Bit k d) (hk : k ≤ 9000 := by decide) (hk0 : 0 < k := by decide) : F_ratio [.int n, .int d] h = .ok (.tup [.int (red n d).1, .int (red n d).2]) h := by
  have c : ¬ d = 0 := by omega
  simp [F_ratio, M_ratio, defM, c, hd, ev_reduced hd hs hk hk0]
theorem ev_ratio_neg {k : Nat} (hd : d < 0) (hs : Bit k d) (hk : k ≤ 9000 := by decide) (hk0 : 0 < k := by decide) : F_ratio [.int n, .int d] h = .ok (.tup [.int (red (-n) (-d)).1, .int (red (-n) (-d)).2]) h := by
  have c : ¬ d = 0 := by omega
  have c2 : ¬ 0 < d := by omega
  simp [F_ratio, M_ratio, defM, c, c2, ev_reduced (d := -d) (by omega) hs.neg hk hk0]
theorem ev_ratio0 : F_ratio [.int n, .int 0] h = .exc ⟨"BadValue", [("name", .str "d")]⟩ h := by simp [F_ratio, M_ratio, defM]
end
/-! ### Euclid in the law -/
/-- a turn's body -/
noncomputable def gcdB : MS := (seqM (ifM (btestM (binM eqM (varM 1) (constM (.int 0)))) brkM nextM)
  (parM 0 1 (aconsM (varM 1) (aconsM (binM modM (callM intF (aconsM (varM 0) anilM)) (varM 1)) anilM))))
theorem gcdB0 {a : Int} {x : Option D} {h : IH} : gcdB [some (.int a), some (.int 0), x] h = .bk [some (.int a), some (.int 0), x] h := by simp [gcdB]
theorem gcdB1 {a b : Int} {x : Option D} {h : IH} (hb : 0 < b) : gcdB [some (.int a), some (.int b), x] h = .nx [some (.int b), some (.int (a % b)), x] h := by
  have c : ¬ b = 0 := by omega
  simp [gcdB, c, modM_pos hb]
theorem gcd_mod {a b : Int} (ha : 0 ≤ a) (hb : 0 < b) : Int.gcd b (a % b) = Int.gcd a b := by
  obtain ⟨m, rfl⟩ := Int.eq_ofNat_of_zero_le ha
  obtain ⟨n, rfl⟩ := Int.eq_ofNat_of_zero_le (Int.le_of_lt hb)
  show Nat.gcd n (m % n) = Nat.gcd m n
  rw [Nat.gcd_comm n, ← Nat.gcd_rec, Nat.gcd_comm]
theorem gcdT0 {a : Int} {d : D} {ds : List D} {x : Option D} {h : IH} : forS (gnameM 2) gcdB (d :: ds) [some (.int a), some (.int 0), x] h = .nx [some (.int a), some (.int 0), some d] h := by
  rw [forS_cons, turnM_eq]
  simp [gcdB0]
theorem gcdT1 {a b : Int} {d : D} {ds : List D} {x : Option D} {h : IH} (hb : 0 < b) : forS (gnameM 2) gcdB (d :: ds) [some (.int a), some (.int b), x] h = forS (gnameM 2) gcdB ds [some (.int b), some (.int (a % b)), some d] h := by
  rw [forS_cons, turnM_eq]
  simp [gcdB1 hb]
theorem gcd_loop {h : IH} : ∀ (k : Nat) (a b : Int) (ds : List D) (x : Option D), 0 ≤ a → 0 < b → steps b.natAbs ≤ 2 * k → 2 * k ≤ ds.length →
    ∃ x', forS (gnameM 2) gcdB ds [some (.int a), some (.int b), x] h = .nx [some (.int (Int.gcd a b : Nat)), some (.int 0), x'] h
  | 0, a, b, ds, x, _, _, hs, _ => by unfold steps at hs; omega
  | k + 1, a, b, ds, x, ha, hb, hs, hl => by
    match ds, hl with
    | d1 :: d2 :: ds, hl =>
      rw [gcdT1 hb, ← gcd_mod ha hb]
      have h1 := Int.emod_nonneg a (b := b) (by omega)
      have h2 := Int.emod_lt_of_pos a hb
      by_cases c : a % b = 0
      · rw [c, gcdT0]
        exact ⟨some d2, by simp [Int.gcd]; omega⟩
      · have hb' : 0 < a % b := by omega
        rw [gcdT1 hb', ← gcd_mod (by omega) hb']
        have h3 := Int.emod_nonneg b (b := a % b) (by omega)
        by_cases c2 : b % (a % b) = 0
        · rw [c2]
          match ds with
          | [] => exact ⟨some d2, by simp [Int.gcd]; omega⟩
          | d3 :: ds => rw [gcdT0]; exact ⟨some d3, by simp [Int.gcd]; omega⟩
        · refine gcd_loop k (a % b) (b % (a % b)) ds (some d2) h1 (by omega) ?_ (by simp at hl; omega)
          have hh : (b % (a % b)).natAbs.log2 + 1 ≤ b.natAbs.log2 := by
            refine log2_half ?_ (by omega)
            obtain ⟨m, rfl⟩ := Int.eq_ofNat_of_zero_le ha
            obtain ⟨n, rfl⟩ := Int.eq_ofNat_of_zero_le (Int.le_of_lt hb)
            exact euclid_half (a := m) (b := n) (by intro z; apply c; show ((m % n : Nat) : Int) = 0; omega) (by omega)
          unfold steps at *
          omega
theorem rngD_cons {lo : Int} {n : Nat} : rngD lo (n + 1) = .int lo :: rngD (lo + 1) n := by
  unfold rngD
  rw [List.range_succ_eq_map, List.map_cons, List.map_map]
  congr 1
  · simp
  · congr 1
    funext i
    show D.int (lo + ((i + 1 : Nat) : Int)) = D.int (lo + 1 + (i : Int))
    congr 1
    omega
theorem ev_law_gcd {a b : Int} {h : IH} {k : Nat} (hb : Bit k b) (hk : k ≤ 19000 := by decide) : F__law_gcd [.int a, .int b] h = .ok (.int (Int.gcd a b : Nat)) h := by
  have ea : (if a < 0 then -a else a) = ((a.natAbs : Nat) : Int) := by split <;> omega
  have eb : (if b < 0 then -b else b) = ((b.natAbs : Nat) : Int) := by split <;> omega
  have key : ∃ x', forS (gnameM 2) gcdB (rngD 0 40000) [some (.int (a.natAbs : Nat)), some (.int (b.natAbs : Nat)), none] h = .nx [some (.int (Int.gcd a b : Nat)), some (.int 0), x'] h := by
    by_cases c : b.natAbs = 0
    · rw [c, show (40000 : Nat) = 39999 + 1 from rfl, rngD_cons]
      have : b = 0 := by omega
      subst this
      refine ⟨some (.int 0), gcdT0.trans ?_⟩
      simp [Int.gcd]
    · have := gcd_loop (h := h) 19002 (a.natAbs : Int) (b.natAbs : Int) (rngD 0 40000) none (by omega) (by omega) (by
        have := log2_lt (n := b.natAbs) (k := k + 1) (Nat.lt_of_lt_of_le hb (Nat.pow_le_pow_right (by decide) (by omega))) (by omega)
        unfold steps
        simp only [Int.natAbs_natCast]
        omega) (by rw [rngD_length]; decide)
      rw [show Int.gcd (a.natAbs : Int) (b.natAbs : Int) = Int.gcd a b by simp [Int.gcd]] at this
      exact this
  obtain ⟨x', key⟩ := key
  unfold gcdB at key
  simp only [F__law_gcd, M__law_gcd, defM, seqM_eq, setM_eq, callM_eq, aconsM_eq, anilM_eq, varM_eq, constM_eq, List.map, List.length, List.cons_append, List.nil_append, List.append, List.replicate, List.getElem?_cons_zero, List.getElem?_cons_succ, R.bindG_ok, absF_int, ea, eb, List.set, forM_eq, rngI1_eq]
  rw [if_pos (rng_of (by decide) (by decide))]
  simp only [R.bindG_ok]
  rw [show (40000 : Int).toNat = 40000 from rfl, key]
  simp
end Zc
/-! C1N: the law's draws. -/
namespace Zc
open PySem L2 Z Q
/-- a stream stands at s, with at most n cells taken -/
def Strm (n : Nat) (h : IH) (s : Nat) : Prop := ∃ (l : Nat) (ns : List Int) (c k : Int), h[s]? = some (.lst [.ref l, .int c, .int k]) ∧ h[l]? = some (.lst (ns.map .int)) ∧ s ≠ l ∧ 0 ≤ c ∧ 0 ≤ k ∧ k ≤ n
/-- what a draw leaves: the stream, all else as it was -/
structure Drew (n : Nat) (h : IH) (s : Nat) (h' : IH) : Prop where
  st : Strm (n + 1) h' s
  len : h'.length = h.length
  keep : ∀ i, i ≠ s → h'[i]? = h[i]?
theorem Drew.get {n : Nat} {h h' : IH} {s : Nat} (w : Drew n h s h') {i : Nat} {o : IO} (e : h[i]? = some o) (ne : i ≠ s) : h'[i]? = some o := (w.keep i ne).trans e
theorem Strm.app {n : Nat} {h g : IH} {s : Nat} (w : Strm n h s) : Strm n (h ++ g) s := by
  obtain ⟨l, ns, c, k, h1, h2, h3⟩ := w
  have e : ∀ {i : Nat} {o : IO}, h[i]? = some o → (h ++ g)[i]? = some o := fun {i o} z => by
    rw [List.getElem?_append_left (List.getElem?_eq_some_iff.mp z).1]; exact z
  exact ⟨l, ns, c, k, e h1, e h2, h3⟩
theorem Strm.lt {n : Nat} {h : IH} {s : Nat} (w : Strm n h s) : s < h.length := by
  obtain ⟨l, ns, c, k, h1, _⟩ := w
  exact (List.getElem?_eq_some_iff.mp h1).1
theorem Strm.mono {n m : Nat} {h : IH} {s : Nat} (w : Strm n h s) (c : n ≤ m) : Strm m h s := by
  obtain ⟨l, ns, c', k, h1, h2, h3, h4, h5, h6⟩ := w
  exact ⟨l, ns, c', k, h1, h2, h3, h4, h5, by omega⟩
theorem Strm.set {n : Nat} {h : IH} {s i : Nat} {o : IO} (w : Strm n h s) (hi : i ≠ s) (hl : ∀ ns : List Int, h[i]? ≠ some (.lst (ns.map .int))) : Strm n (h.set i o) s := by
  obtain ⟨l, ns, c', k, h1, h2, h3⟩ := w
  exact ⟨l, ns, c', k, by rw [List.getElem?_set_ne hi]; exact h1, by rw [List.getElem?_set_ne (by rintro rfl; exact hl _ h2)]; exact h2, h3⟩
theorem set_get {h : IH} {i : Nat} {o o' : IO} (e : h[i]? = some o) : (h.set i o')[i]? = some o' := List.getElem?_set_self (List.getElem?_eq_some_iff.mp e).1
@[simp] theorem ixN_1 {a b : Nat} : ixN (a + 1 + 1) 1 = some 1 := by
  unfold ixN
  rw [if_pos (by decide), if_pos (by omega)] <;> rfl
@[simp] theorem ixN_2 {a : Nat} : ixN (a + 1 + 1 + 1) 2 = some 2 := by
  unfold ixN
  rw [if_pos (by decide), if_pos (by omega)] <;> rfl
noncomputable def nextA : MS := (ifM (btestM (binM eqM (binM ixM (varM 0) (constM (.int 1))) (constM (.int 0)))) (seqM (setM 3 (binM ixM (varM 0) (constM (.int 2))))
  (seqM (setM 4 (binM addM (constM (.int 7)) (varM 3)))
  (seqM (ifM (btestM (binM ltM (varM 3) (callM lenF (aconsM (binM ixM (varM 0) (constM (.int 0))) anilM)))) (setM 4 (callM absF (aconsM (binM ixM (binM ixM (varM 0) (constM (.int 0))) (varM 3)) anilM))) nextM)
  (seqM (ifM (btestM (binM ltM (varM 4) (binM powM (constM (.int 10)) (constM (.int 18))))) (seqM (setM 4 (binM modM (callM intF (aconsM (binM addM (binM addM (binM mulM (varM 4) (constM (.int 48271))) (binM mulM (varM 3) (constM (.int 69621)))) (constM (.int 11))) anilM)) (constM (.int 2147483647))))
  (setM 4 (binM addM (binM mulM (binM modM (callM intF (aconsM (binM addM (binM mulM (varM 4) (constM (.int 16807))) (constM (.int 13))) anilM)) (constM (.int 2147483647))) (constM (.int 65537))) (varM 4)))) nextM)
  (seqM (putM setL (varM 0) (constM (.int 1)) (varM 4))
  (putM setL (varM 0) (constM (.int 2)) (binM addM (varM 3) (constM (.int 1))))))))) nextM)
noncomputable def nextB : MS := (seqM (setM 2 (binM modM (callM intF (aconsM (binM ixM (varM 0) (constM (.int 1))) anilM)) (varM 1)))
  (seqM (putM setL (varM 0) (constM (.int 1)) (binM fdivM (binM ixM (varM 0) (constM (.int 1))) (varM 1)))
  (retM (varM 2))))
theorem next_is : M__law_next = seqM nextA nextB := rfl
theorem nextB_ev {h : IH} {s l : Nat} {c k m : Int} {x y z : Option D} (h1 : h[s]? = some (.lst [.ref l, .int c, .int k])) (hm : 0 < m) {b : Nat} (hb : Bit b m) (hb9 : b ≤ 9000) (hb0 : 0 < b) :
    nextB [some (.ref s), some (.int m), x, y, z] h = .rt (.int (c % m)) (h.set s (.lst [.ref l, .int (c / m), .int k])) := by
  have e1 := fun x h => fdivM_pos (x := x) (h := h) hm hb hb9 hb0
  simp [nextB, ixM_ref h1, modM_pos hm, e1, setL_ref h1, ixN]
theorem nextA_no {h : IH} {s l : Nat} {c k : Int} {x y z u : Option D} (h1 : h[s]? = some (.lst [.ref l, .int c, .int k])) (hc : c ≠ 0) :
    nextA [some (.ref s), x, y, z, u] h = .nx [some (.ref s), x, y, z, u] h := by
  simp [nextA, ixM_ref h1, hc]
/-- a cell turned into the one that is used -/
theorem mix_ev {h : IH} {cell k : Int} {a x y : Option D} (h0 : 0 ≤ cell) (hk : 0 ≤ k) (hk2 : k ≤ 1000000000) :
    ∃ cell', 0 ≤ cell' ∧ (ifM (btestM (binM ltM (varM 4) (binM powM (constM (.int 10)) (constM (.int 18))))) (seqM (setM 4 (binM modM (callM intF (aconsM (binM addM (binM addM (binM mulM (varM 4) (constM (.int 48271))) (binM mulM (varM 3) (constM (.int 69621)))) (constM (.int 11))) anilM)) (constM (.int 2147483647))))
  (setM 4 (binM addM (binM mulM (binM modM (callM intF (aconsM (binM addM (binM mulM (varM 4) (constM (.int 16807))) (constM (.int 13))) anilM)) (constM (.int 2147483647))) (constM (.int 65537))) (varM 4)))) nextM) [a, x, y, some (.int k), some (.int cell)] h = .nx [a, x, y, some (.int k), some (.int cell')] h := by
  have p18 := powM_int (x := 10) (y := 18) (h := h) (by decide)
  by_cases c : cell < 10 ^ 18
  · have s1 : small cell 48271 := small_of (a := 64) (b := 64) (Bit.pos h0 (by omega)) (Bit.pos (by decide) (by decide))
    have s2 : small k 69621 := small_of (a := 64) (b := 64) (Bit.pos hk (by omega)) (Bit.pos (by decide) (by decide))
    have n1 := Int.emod_nonneg (cell * 48271 + k * 69621 + 11) (b := 2147483647) (by decide)
    have n2 := Int.emod_lt_of_pos (cell * 48271 + k * 69621 + 11) (b := 2147483647) (by decide)
    have s3 : small ((cell * 48271 + k * 69621 + 11) % 2147483647) 16807 := small_of (a := 64) (b := 64) (Bit.pos n1 (by omega)) (Bit.pos (by decide) (by decide))
    have n3 := Int.emod_nonneg ((cell * 48271 + k * 69621 + 11) % 2147483647 * 16807 + 13) (b := 2147483647) (by decide)
    have n4 := Int.emod_lt_of_pos ((cell * 48271 + k * 69621 + 11) % 2147483647 * 16807 + 13) (b := 2147483647) (by decide)
    have s4 : small (((cell * 48271 + k * 69621 + 11) % 2147483647 * 16807 + 13) % 2147483647) 65537 := small_of (a := 64) (b := 64) (Bit.pos n3 (by omega)) (Bit.pos (by decide) (by decide))
    refine ⟨((cell * 48271 + k * 69621 + 11) % 2147483647 * 16807 + 13) % 2147483647 * 65537 + (cell * 48271 + k * 69621 + 11) % 2147483647, by omega, ?_⟩
    simp only [ifM_eq, btestM_eq, binM_eq, varM_eq, List.getElem?_cons_succ, List.getElem?_cons_zero, R.bindG_ok, constM_eq, p18, ltM_int, seqM_eq, setM_eq, callM_eq, aconsM_eq, anilM_eq, intF_int, addM_int, List.set, mulM_int s1, mulM_int s2, modM_pos (show (0:Int) < 2147483647 by decide), mulM_int s3, mulM_int s4]
    simp only [show (18 : Int).toNat = 18 from rfl, c, decide_true, if_true]
  · refine ⟨cell, h0, ?_⟩
    simp only [ifM_eq, btestM_eq, binM_eq, varM_eq, List.getElem?_cons_succ, List.getElem?_cons_zero, R.bindG_ok, constM_eq, p18, ltM_int, nextM_eq]
    simp only [show (18 : Int).toNat = 18 from rfl, c, decide_false, Bool.false_eq_true, if_false]
theorem nextA_yes {h : IH} {s l : Nat} {ns : List Int} {k : Int} {x y z u : Option D} (h1 : h[s]? = some (.lst [.ref l, .int 0, .int k])) (h2 : h[l]? = some (.lst (ns.map .int))) (ne : s ≠ l) (hk : 0 ≤ k) (hk2 : k ≤ 1000000000) :
    ∃ c z' u', 0 ≤ c ∧ nextA [some (.ref s), x, y, z, u] h = .nx [some (.ref s), x, y, z', u'] (h.set s (.lst [.ref l, .int c, .int (k + 1)])) := by
  have fin : ∀ cell : Int, 0 ≤ cell → ∃ c z' u', 0 ≤ c ∧ (seqM (ifM (btestM (binM ltM (varM 4) (binM powM (constM (.int 10)) (constM (.int 18))))) (seqM (setM 4 (binM modM (callM intF (aconsM (binM addM (binM addM (binM mulM (varM 4) (constM (.int 48271))) (binM mulM (varM 3) (constM (.int 69621)))) (constM (.int 11))) anilM)) (constM (.int 2147483647))))
  (setM 4 (binM addM (binM mulM (binM modM (callM intF (aconsM (binM addM (binM mulM (varM 4) (constM (.int 16807))) (constM (.int 13))) anilM)) (constM (.int 2147483647))) (constM (.int 65537))) (varM 4)))) nextM)
  (seqM (putM setL (varM 0) (constM (.int 1)) (varM 4))
  (putM setL (varM 0) (constM (.int 2)) (binM addM (varM 3) (constM (.int 1)))))) [some (.ref s), x, y, some (.int k), some (.int cell)] h = .nx [some (.ref s), x, y, z', u'] (h.set s (.lst [.ref l, .int c, .int (k + 1)])) := fun cell h0 => by
    obtain ⟨c', h3, h4⟩ := mix_ev (h := h) (cell := cell) (k := k) (a := some (.ref s)) (x := x) (y := y) h0 hk hk2
    refine ⟨c', some (.int k), some (.int c'), h3, ?_⟩
    have h5 : (h.set s (.lst [.ref l, .int c', .int k]))[s]? = some (.lst [.ref l, .int c', .int k]) := set_get h1
    rw [seqM_eq, h4]
    simp [setL_ref h1, setL_ref h5, List.set_set, ixN]
  by_cases c : k < ns.length
  · have ek : atI (ns.map D.int) k = some (.int (ns[k.toNat]'(by omega))) := by
      have : ((k.toNat : Nat) : Int) = k := by omega
      conv => lhs; rw [← this]
      exact atI_of (by simp)
    have habs : (0 : Int) ≤ (if ns[k.toNat]'(by omega) < 0 then -(ns[k.toNat]'(by omega)) else ns[k.toNat]'(by omega)) := by split <;> omega
    obtain ⟨c', z', u', h3, h4⟩ := fin _ habs
    refine ⟨c', z', u', h3, ?_⟩
    rw [← h4]
    have lm : (ns.map D.int).length = ns.length := by simp
    simp only [nextA, ifM_eq, btestM_eq, binM_eq, varM_eq, List.getElem?_cons_succ, List.getElem?_cons_zero, R.bindG_ok, constM_eq, ixM_ref h1, atI_0, atI_1, atI_2, eqM_int, decide_true, if_true, seqM_eq, setM_eq, List.set, addM_int, callM_eq, aconsM_eq, anilM_eq, lenF_ref h2, ltM_int, lm, c, ixM_ref h2, ek, absF_int]
  · obtain ⟨c', z', u', h3, h4⟩ := fin (7 + k) (by omega)
    refine ⟨c', z', u', h3, ?_⟩
    rw [← h4]
    have lm : (ns.map D.int).length = ns.length := by simp
    simp only [nextA, ifM_eq, btestM_eq, binM_eq, varM_eq, List.getElem?_cons_succ, List.getElem?_cons_zero, R.bindG_ok, constM_eq, ixM_ref h1, atI_0, atI_1, atI_2, eqM_int, decide_true, if_true, seqM_eq, setM_eq, List.set, addM_int, callM_eq, aconsM_eq, anilM_eq, lenF_ref h2, ltM_int, lm, c, decide_false, Bool.false_eq_true, if_false, nextM_eq]
theorem ev_next {n : Nat} {h : IH} {s : Nat} {m : Int} (w : Strm n h s) (hn : n ≤ 1000000000) (hm : 0 < m) {b : Nat} (hb : Bit b m) (hb9 : b ≤ 9000 := by decide) (hb0 : 0 < b := by decide) :
    ∃ (d : Int) (h' : IH), F__law_next [.ref s, .int m] h = .ok (.int d) h' ∧ 0 ≤ d ∧ d < m ∧ Drew n h s h' := by
  obtain ⟨l, ns, c, k, h1, h2, ne, hc, hk, hkn⟩ := w
  have fin : ∀ (h' : IH) (c' k' : Int) (z u : Option D), h'[s]? = some (.lst [.ref l, .int c', .int k']) → h'.length = h.length → (∀ i, i ≠ s → h'[i]? = h[i]?) → 0 ≤ c' → 0 ≤ k' → k' ≤ ((n + 1 : Nat) : Int) →
      nextA [some (.ref s), some (.int m), none, none, none] h = .nx [some (.ref s), some (.int m), none, z, u] h' →
      ∃ (d : Int) (h' : IH), F__law_next [.ref s, .int m] h = .ok (.int d) h' ∧ 0 ≤ d ∧ d < m ∧ Drew n h s h' := fun h' c' k' z u g1 gl gk gc gk0 gkn ga => by
    have e := nextB_ev (x := none) (y := z) (z := u) g1 hm hb hb9 hb0
    refine ⟨c' % m, h'.set s (.lst [.ref l, .int (c' / m), .int k']), ?_, Int.emod_nonneg _ (by omega), Int.emod_lt_of_pos _ hm, ⟨l, ns, c' / m, k', set_get g1, ?_, ne, Int.ediv_nonneg gc (by omega), gk0, gkn⟩, by rw [List.length_set, gl], fun i hi => ?_⟩
    · unfold F__law_next defM
      rw [next_is, seqM_eq]
      simp only [List.map, List.length, List.cons_append, List.nil_append, List.append, List.replicate]
      rw [ga]
      dsimp only
      rw [e]
      exact trunc_len (by rw [List.length_set, gl])
    · rw [List.getElem?_set_ne ne, gk l (Ne.symm ne)]; exact h2
    · rw [List.getElem?_set_ne (Ne.symm hi), gk i hi]
  by_cases c0 : c = 0
  · subst c0
    obtain ⟨c', z', u', h3, h4⟩ := nextA_yes (x := some (.int m)) (y := none) (z := none) (u := none) h1 h2 ne hk (by omega)
    exact fin _ c' (k + 1) z' u' (set_get h1) (List.length_set ..) (fun i hi => List.getElem?_set_ne (Ne.symm hi)) h3 (by omega) (by omega) h4
  · exact fin h c k none none h1 rfl (fun _ _ => rfl) hc hk (by omega) (nextA_no h1 c0)
theorem ev_stream {ds : List Int} {h : IH} : F__law_stream [.fz (ds.map .int)] h = .ok (.ref (h.length + 1)) (h ++ [.lst (ds.map .int), .lst [.ref h.length, .int 0, .int 0]]) := by
  simp [F__law_stream, M__law_stream, defM, lstM_eq, newL_eq]
  exact trunc_new (by omega)
theorem strm0 {ds : List Int} : Strm 0 [.lst (ds.map .int), .lst [.ref 0, .int 0, .int 0]] 1 := ⟨0, ds, 0, 0, rfl, rfl, by decide, by decide, by decide, by decide⟩
end Zc
/-! C2L: rationals: the common defs over Rat. -/
namespace Zc
open PySem L2 Z Q
/-- a rational, as the program has it -/
def dr (r : Rat) : D := .tup [.int r.num, .int (r.den : Int)]
theorem red_divInt {n d : Int} (hd : 0 < d) : red n d = ((Rat.divInt n d).num, ((Rat.divInt n d).den : Int)) := by
  have h0 : d ≠ 0 := by omega
  have dp : 0 < ((Rat.divInt n d).den : Int) := by
    have := (Rat.divInt n d).den_pos
    omega
  refine rat_unique (red_rat hd) ⟨dp, ?_⟩ ?_
  · have := (Rat.divInt n d).reduced
    exact this
  · have h1 := red_eq (n := n) h0
    have h2 : (Rat.divInt n d).num * d = n * ((Rat.divInt n d).den : Int) := (Rat.divInt_eq_divInt_iff (by omega) h0).mp (Rat.num_divInt_den _)
    refine Int.eq_of_mul_eq_mul_right h0 ?_
    dsimp only
    calc (red n d).1 * ((Rat.divInt n d).den : Int) * d = ((red n d).1 * d) * ((Rat.divInt n d).den : Int) := by ac_rfl
      _ = (red n d).2 * (n * ((Rat.divInt n d).den : Int)) := by rw [h1]; ac_rfl
      _ = (Rat.divInt n d).num * (red n d).2 * d := by rw [← h2]; ac_rfl
/-- sizes -/
structure RB (k : Nat) (r : Rat) : Prop where
  n : Bit k r.num
  d : Bit k (r.den : Int)
theorem RB.divInt {k : Nat} {n d : Int} (hn : Bit k n) (hd : Bit k d) (h0 : d ≠ 0) : RB k (Rat.divInt n d) := by
  by_cases c : 0 < d
  · have e := red_divInt (n := n) c
    have s := red_small (n := n) (d := d)
    rw [e] at s
    exact ⟨hn.le s.1, hd.le s.2⟩
  · have e := red_divInt (n := -n) (d := -d) (by omega)
    have s := red_small (n := -n) (d := -d)
    rw [e, Rat.neg_divInt_neg] at s
    exact ⟨hn.neg.le s.1, hd.neg.le s.2⟩
theorem den_ne {r : Rat} : (r.den : Int) ≠ 0 := by
  have := r.den_pos
  omega
theorem den_pos' {r : Rat} : 0 < (r.den : Int) := by
  have := r.den_pos
  omega
theorem add_is {a b : Rat} : a + b = Rat.divInt (a.num * b.den + b.num * a.den) (a.den * b.den) := by
  conv => lhs; rw [← Rat.num_divInt_den a, ← Rat.num_divInt_den b]
  exact Rat.divInt_add_divInt _ _ den_ne den_ne
theorem sub_is {a b : Rat} : a - b = Rat.divInt (a.num * b.den - b.num * a.den) (a.den * b.den) := by
  conv => lhs; rw [← Rat.num_divInt_den a, ← Rat.num_divInt_den b]
  exact Rat.divInt_sub_divInt _ _ den_ne den_ne
theorem mul_is {a b : Rat} : a * b = Rat.divInt (a.num * b.num) (a.den * b.den) := by
  conv => lhs; rw [← Rat.num_divInt_den a, ← Rat.num_divInt_den b]
  exact Rat.divInt_mul_divInt _ _
theorem inv_is {b : Rat} : b⁻¹ = Rat.divInt b.den b.num := by
  conv => lhs; rw [← Rat.num_divInt_den b]
  exact Rat.inv_divInt ..
theorem div_is {a b : Rat} : a / b = Rat.divInt (a.num * b.den) (a.den * b.num) := by
  rw [Rat.div_def, inv_is]
  conv => lhs; rw [← Rat.num_divInt_den a]
  exact Rat.divInt_mul_divInt _ _
theorem num_ne {b : Rat} (h : b ≠ 0) : b.num ≠ 0 := fun z => h (Rat.num_eq_zero.mp z)
theorem RB.add {k l : Nat} {a b : Rat} (ha : RB k a) (hb : RB l b) : RB (k + l + 1) (a + b) := by
  rw [add_is]
  refine RB.divInt ?_ ((ha.d.mul hb.d).mono (by omega)) (Int.mul_ne_zero den_ne den_ne)
  have h1 := ha.n.mul hb.d
  have h2 := hb.n.mul ha.d
  rw [Nat.add_comm l k] at h2
  exact h1.add h2
theorem RB.sub {k l : Nat} {a b : Rat} (ha : RB k a) (hb : RB l b) : RB (k + l + 1) (a - b) := by
  rw [sub_is]
  refine RB.divInt ?_ ((ha.d.mul hb.d).mono (by omega)) (Int.mul_ne_zero den_ne den_ne)
  have h1 := ha.n.mul hb.d
  have h2 := (hb.n.mul ha.d).neg
  rw [Nat.add_comm l k] at h2
  exact h1.add h2
theorem RB.mul {k l : Nat} {a b : Rat} (ha : RB k a) (hb : RB l b) : RB (k + l) (a * b) := by
  rw [mul_is]
  exact RB.divInt (ha.n.mul hb.n) (ha.d.mul hb.d) (Int.mul_ne_zero den_ne den_ne)
theorem RB.div {k l : Nat} {a b : Rat} (ha : RB k a) (hb : RB l b) (h0 : b ≠ 0) : RB (k + l) (a / b) := by
  rw [div_is]
  exact RB.divInt (ha.n.mul hb.d) (ha.d.mul hb.n) (Int.mul_ne_zero den_ne (num_ne h0))
theorem RB.neg {k : Nat} {a : Rat} (ha : RB k a) : RB k (-a) := ⟨ha.n.neg, ha.d⟩
theorem RB.mono {k l : Nat} {a : Rat} (ha : RB k a) (c : k ≤ l) : RB l a := ⟨ha.n.mono c, ha.d.mono c⟩
section
variable {h : IH} {n d : Int} {a b : Rat} {k l : Nat}
theorem ev_reducedR (hd : 0 < d) (hs : Bit k d) (hk : k ≤ 9000 := by decide) (hk0 : 0 < k := by decide) : F_reduced [.int n, .int d] h = .ok (dr (Rat.divInt n d)) h := by
  rw [ev_reduced hd hs hk hk0, red_divInt hd] <;> rfl
theorem ev_ratioR (hd : d ≠ 0) (hs : Bit k d) (hk : k ≤ 9000 := by decide) (hk0 : 0 < k := by decide) : F_ratio [.int n, .int d] h = .ok (dr (Rat.divInt n d)) h := by
  by_cases c : 0 < d
  · rw [ev_ratio c hs hk hk0, red_divInt c] <;> rfl
  · rw [ev_ratio_neg (by omega) hs hk hk0, red_divInt (by omega), Rat.neg_divInt_neg] <;> rfl
theorem fdiv_neg_of {g m : Int} (hg : 0 < g) : (m * g).fdiv (-g) = -m := by
  have : m * g = (-m) * (-g) := by rw [Int.neg_mul_neg]
  rw [this, Int.mul_fdiv_cancel _ (by omega)]
theorem ev_law_lowR (hd : d ≠ 0) (hs : Bit k d) (hk : k ≤ 9000 := by decide) (hk0 : 0 < k := by decide) : F__law_low [.int n, .int d] h = .ok (dr (Rat.divInt n d)) h := by
  have g0 := gcd_pos (n := n) (d := d) hd
  have gB : Bit k (Int.gcd n d : Int) := hs.le (by
    have : Int.gcd n d ≤ d.natAbs := Nat.le_of_dvd (by omega) (Nat.gcd_dvd_right ..)
    simpa using this)
  have eg := ev_law_gcd (a := n) (b := d) (h := h) hs (by omega)
  by_cases c : 0 < d
  · have e1 := fun x h => fdivM_pos (x := x) (h := h) g0 gB hk hk0
    have c' : ¬ d < 0 := by omega
    simp [F__law_low, M__law_low, defM, eg, c', tupM_eq, e1]
    show D.tup [D.int (red n d).1, D.int (red n d).2] = _
    rw [red_divInt c] <;> rfl
  · have c' : d < 0 := by omega
    have e1 := fun x h => fdivM_int (x := x) (y := -(Int.gcd n d : Int)) (h := h) (by omega) (by rw [Int.natAbs_neg]; exact Nat.lt_of_lt_of_le (gB.log hk0) hk)
    simp [F__law_low, M__law_low, defM, eg, c', tupM_eq, e1]
    have z : ∀ x : Int, (Int.gcd n d : Int) ∣ x → x.fdiv (-(Int.gcd n d : Int)) = (-x) / (Int.gcd n d : Int) := fun x hx => by
      obtain ⟨m, rfl⟩ := hx
      rw [Int.mul_comm, fdiv_neg_of g0, ← Int.neg_mul, Int.mul_ediv_cancel _ (by omega)]
    rw [z n (Int.gcd_dvd_left ..), z d (Int.gcd_dvd_right ..)]
    have q : red (-n) (-d) = ((-n) / (Int.gcd n d : Int), (-d) / (Int.gcd n d : Int)) := by
      unfold red
      rw [Int.gcd_neg, Int.neg_gcd]
    have q2 := red_divInt (n := -n) (d := -d) (by omega)
    rw [Rat.neg_divInt_neg, q] at q2
    have q3 := congrArg Prod.fst q2
    have q4 := congrArg Prod.snd q2
    dsimp only at q3 q4
    rw [q3, q4] <;> rfl
theorem ixM_tup2_0 {x y : D} : ixM (.tup [x, y]) (.int 0) h = .ok x h := by simp
@[simp] theorem okV_dr : okV h (dr a) = .ok (dr a) h := rfl
@[simp] theorem tyN_dr : tyN h (dr a) = some "tuple" := rfl
@[simp] theorem ixM_dr0 : ixM (dr a) (.int 0) h = .ok (.int a.num) h := ixM_tup2_0
@[simp] theorem ixM_dr1 : ixM (dr a) (.int 1) h = .ok (.int (a.den : Int)) h := by simp [dr]
theorem ev_plus (ha : RB k a) (hb : RB l b) (hk : k + l ≤ 9000 := by decide) (h0 : 0 < k := by decide) (h1 : 0 < l := by decide) : F_plus [dr a, dr b] h = .ok (dr (a + b)) h := by
  have s1 := small_of ha.n hb.d (by omega) h0 h1
  have s2 := small_of ha.d hb.n (by omega) h0 h1
  have s3 := small_of ha.d hb.d (by omega) h0 h1
  have e := ev_reducedR (h := h) (n := a.num * b.den + a.den * b.num) (d := a.den * b.den) (Int.mul_pos den_pos' den_pos') (ha.d.mul hb.d) hk (by omega)
  rw [add_is, Int.mul_comm b.num]
  simp [F_plus, M_plus, defM, ixM_dr0, ixM_dr1, mulM_int s1, mulM_int s2, mulM_int s3, e]
theorem ev_minus (ha : RB k a) (hb : RB l b) (hk : k + l ≤ 9000 := by decide) (h0 : 0 < k := by decide) (h1 : 0 < l := by decide) : F_minus [dr a, dr b] h = .ok (dr (a - b)) h := by
  have s1 := small_of ha.n hb.d (by omega) h0 h1
  have s2 := small_of ha.d hb.n (by omega) h0 h1
  have s3 := small_of ha.d hb.d (by omega) h0 h1
  have e := ev_reducedR (h := h) (n := a.num * b.den - a.den * b.num) (d := a.den * b.den) (Int.mul_pos den_pos' den_pos') (ha.d.mul hb.d) hk (by omega)
  rw [sub_is, Int.mul_comm b.num]
  simp [F_minus, M_minus, defM, ixM_dr0, ixM_dr1, mulM_int s1, mulM_int s2, mulM_int s3, e]
theorem ev_times (ha : RB k a) (hb : RB l b) (hk : k + l ≤ 9000 := by decide) (h0 : 0 < k := by decide) (h1 : 0 < l := by decide) : F_times [dr a, dr b] h = .ok (dr (a * b)) h := by
  have s1 := small_of ha.n hb.n (by omega) h0 h1
  have s3 := small_of ha.d hb.d (by omega) h0 h1
  have e := ev_reducedR (h := h) (n := a.num * b.num) (d := a.den * b.den) (Int.mul_pos den_pos' den_pos') (ha.d.mul hb.d) hk (by omega)
  rw [mul_is]
  simp [F_times, M_times, defM, ixM_dr0, ixM_dr1, mulM_int s1, mulM_int s3, e]
theorem ev_over (hz : b ≠ 0) (ha : RB k a) (hb : RB l b) (hk : k + l ≤ 9000 := by decide) (h0 : 0 < k := by decide) (h1 : 0 < l := by decide) : F_over [dr a, dr b] h = .ok (dr (a / b)) h := by
  have s1 := small_of ha.n hb.d (by omega) h0 h1
  have s3 := small_of ha.d hb.n (by omega) h0 h1
  have e := ev_ratioR (h := h) (n := a.num * b.den) (d := a.den * b.num) (Int.mul_ne_zero den_ne (num_ne hz)) (ha.d.mul hb.n) hk (by omega)
  rw [div_is]
  simp [F_over, M_over, defM, ixM_dr0, ixM_dr1, mulM_int s1, mulM_int s3, e, num_ne hz]
theorem ev_over0 : F_over [dr a, dr 0] h = .exc ⟨"BadValue", [("name", .str "b")]⟩ h := by simp [F_over, M_over, defM, ixM_dr0]
theorem ev_less (ha : RB k a) (hb : RB l b) (hk : k + l ≤ 9000 := by decide) (h0 : 0 < k := by decide) (h1 : 0 < l := by decide) : F_less [dr a, dr b] h = .ok (.bl (decide (a < b))) h := by
  have s1 := small_of ha.n hb.d (by omega) h0 h1
  have s3 := small_of ha.d hb.n (by omega) h0 h1
  simp [F_less, M_less, defM, ixM_dr0, ixM_dr1, mulM_int s1, mulM_int s3, Rat.lt_iff, Int.mul_comm (a.den : Int)]
theorem ev_law_plus (ha : RB k a) (hb : RB l b) (hk : k + l ≤ 9000 := by decide) (h0 : 0 < k := by decide) (h1 : 0 < l := by decide) : F__law_plus [dr a, dr b] h = .ok (dr (a + b)) h := by
  have s1 := small_of ha.n hb.d (by omega) h0 h1
  have s2 := small_of hb.n ha.d (by omega) h1 h0
  have s3 := small_of ha.d hb.d (by omega) h0 h1
  have e := ev_law_lowR (h := h) (n := a.num * b.den + b.num * a.den) (d := a.den * b.den) (Int.mul_ne_zero den_ne den_ne) (ha.d.mul hb.d) hk (by omega)
  rw [add_is]
  simp [F__law_plus, M__law_plus, defM, ixM_dr0, ixM_dr1, mulM_int s1, mulM_int s2, mulM_int s3, e]
theorem ev_law_times (ha : RB k a) (hb : RB l b) (hk : k + l ≤ 9000 := by decide) (h0 : 0 < k := by decide) (h1 : 0 < l := by decide) : F__law_times [dr a, dr b] h = .ok (dr (a * b)) h := by
  have s1 := small_of ha.n hb.n (by omega) h0 h1
  have s3 := small_of ha.d hb.d (by omega) h0 h1
  have e := ev_law_lowR (h := h) (n := a.num * b.num) (d := a.den * b.den) (Int.mul_ne_zero den_ne den_ne) (ha.d.mul hb.d) hk (by omega)
  rw [mul_is]
  simp [F__law_times, M__law_times, defM, ixM_dr0, ixM_dr1, mulM_int s1, mulM_int s3, e]
end
end Zc
/-! C2E: the law's own ==. -/
namespace Zc
open PySem L2 Z Q
theorem eqr_succ {k : Nat} {ds : List D} {h : IH} : F__law_equal_r (k + 1) ds h = defM 3 (M__law_equal (F__law_equal_r k)) ds h := rfl
section
variable {h : IH} {k : Nat} {i j : Int} {b c : Bool}
theorem eq_int : F__law_equal_r (k + 1) [.int i, .int j] h = .ok (.bl (decide (i = j))) h := by
  rw [eqr_succ]
  simp [M__law_equal, defM, ev_law_is_integer]
theorem lcS_all {g : MG} {me : ME} {env : Ev} : ∀ {ds : List D}, (∀ d ∈ ds, ∃ e, g d env = some e ∧ me e h = .ok (.bl true) h) → lcS g yesM me env ds h = .ok (ds.map fun _ => .bl true) h
  | [], _ => rfl
  | d :: ds, H => by
    obtain ⟨e, h1, h2⟩ := H d (List.mem_cons_self ..)
    have ih := lcS_all (g := g) (me := me) (env := env) (ds := ds) fun d hd => H d (List.mem_cons_of_mem _ hd)
    unfold lcS
    rw [h1]
    dsimp only [yesM, R.bindG_ok]
    rw [if_pos rfl, h2]
    simp only [R.bindG_ok, R.bind]
    rw [ih]
    rfl
theorem bls_true {α : Type} : ∀ {ds : List α}, bls (ds.map fun _ => .bl true) = some (ds.map fun _ => true)
  | [] => rfl
  | d :: ds => by
    show (match D.bl true, bls (ds.map fun _ => .bl true) with
      | .bl b, some bs => some (b :: bs)
      | _, _ => none) = _
    rw [bls_true (ds := ds)]
    rfl
theorem rngD_mem {d : D} {lo : Int} {n : Nat} (hd : d ∈ rngD lo n) : ∃ i : Nat, i < n ∧ d = .int (lo + (i : Int)) := by
  unfold rngD at hd
  obtain ⟨i, h1, h2⟩ := List.mem_map.mp hd
  exact ⟨i, List.mem_range.mp h1, h2.symm⟩
theorem rngD_length {lo : Int} {n : Nat} : (rngD lo n).length = n := by simp [rngD]
theorem rngI1_int {j : Int} {ms : MA} {env : Ev} {h' : IH} {n : Nat} (e : ms env h = .ok [.int j] h') (hj : j.toNat = n) (h0 : 0 ≤ j) (h1 : j ≤ 1000000000) : rngI1 ms env h = .ok (.snap (rngD 0 n)) h' := by
  have h2 : -(2 ^ 62) ≤ j := by omega
  have h3 : j < 2 ^ 62 := by omega
  rw [rngI1_eq, e]
  simp only [R.bindG_ok]
  rw [if_pos (rng_of h2 h3), hj]
theorem rngI1_nat {ms : MA} {env : Ev} {h' : IH} {n : Nat} (e : ms env h = .ok [.int (n : Int)] h') (hn : n ≤ 16777215) : rngI1 ms env h = .ok (.snap (rngD 0 n)) h' :=
  rngI1_int e (Int.toNat_natCast n) (by omega) (by omega)
theorem eq_all {x y : D} {f : MF} {n : Nat} (hz : n ≤ 16777215) (hy : lenF [y] h = .ok (.int (n : Int)) h) (vx : okV h x = .ok x h) (vy : okV h y = .ok y h)
    (H : ∀ i, i < n → ∃ a b, ixM x (.int (i : Int)) h = .ok a h ∧ ixM y (.int (i : Int)) h = .ok b h ∧ f [a, b] h = .ok (.bl true) h) :
    lcM (rngI1 (aconsM (callM lenF (aconsM (varM 1) anilM)) anilM)) [2] (gnameM 2) yesM (callM f (aconsM (binM ixM (varM 0) (varM 2)) (aconsM (binM ixM (varM 1) (varM 2)) anilM))) [some x, some y, none] h = .ok (.ref h.length) (h ++ [.lst ((rngD 0 n).map fun _ => .bl true)]) := by
  have e1 : rngI1 (aconsM (callM lenF (aconsM (varM 1) anilM)) anilM) [some x, some y, none] h = .ok (.snap (rngD 0 n)) h := rngI1_nat (by simp [vy, hy]) hz
  have e2 : lcS (gnameM 2) yesM (callM f (aconsM (binM ixM (varM 0) (varM 2)) (aconsM (binM ixM (varM 1) (varM 2)) anilM))) [some x, some y, none] (rngD 0 n) h = .ok ((rngD 0 n).map fun _ => .bl true) h := by
    refine lcS_all fun d hd => ?_
    obtain ⟨i, hi, rfl⟩ := rngD_mem hd
    obtain ⟨a, b, h1, h2, h3⟩ := H i hi
    refine ⟨_, rfl, ?_⟩
    simp [gnameM, vx, vy, h1, h2, h3]
  unfold lcM
  rw [e1]
  have hm : n ≤ MOST := by unfold MOST; exact hz
  simp only [R.bindG_ok, R.bind, rngD_length, hm, if_true, wipeE, List.set]
  rw [e2]
  simp only [R.bindG_ok, newL_eq]
theorem all_true {α : Type} {ds : List α} : allF [.ref h.length] (h ++ [.lst (ds.map fun _ => .bl true)]) = .ok (.bl true) (h ++ [.lst (ds.map fun _ => .bl true)]) := by
  have e : lisOf (h ++ [IO.lst (ds.map fun _ => .bl true)]) (.ref h.length) = some (ds.map fun _ => .bl true) := by simp [lisOf]
  unfold allF
  simp [e, bls_true]
theorem atI_nat' {xs : List D} {i : Nat} (h1 : i < xs.length) : atI xs (i : Int) = some xs[i] := atI_of (List.getElem?_eq_getElem h1)
theorem eq_tup {xs ys : List D} (hl : xs.length = ys.length) (hz : ys.length ≤ 16777215) (H : ∀ i (h1 : i < xs.length) (h2 : i < ys.length), F__law_equal_r k [xs[i], ys[i]] h = .ok (.bl true) h) : F__law_equal_r (k + 1) [.tup xs, .tup ys] h = .ok (.bl true) h := by
  rw [eqr_succ]
  have e := eq_all (h := h) (x := .tup xs) (y := .tup ys) (f := F__law_equal_r k) (n := ys.length) hz rfl rfl rfl fun i hi => ⟨xs[i], ys[i], by simp [ixM, atI_nat' (xs := xs) (i := i) (by omega)], by simp [ixM, atI_nat' hi], H i _ hi⟩
  have e2 := all_true (h := h) (ds := rngD 0 ys.length)
  simp [M__law_equal, defM, hl, e, e2]
  exact trunc_app rfl
theorem eq_ref {n m : Nat} {xs ys : List D} (hn : h[n]? = some (.lst xs)) (hm : h[m]? = some (.lst ys)) (hl : xs.length = ys.length) (hz : ys.length ≤ 16777215) (H : ∀ i (h1 : i < xs.length) (h2 : i < ys.length), F__law_equal_r k [xs[i], ys[i]] h = .ok (.bl true) h) : F__law_equal_r (k + 1) [.ref n, .ref m] h = .ok (.bl true) h := by
  rw [eqr_succ]
  have e := eq_all (h := h) (x := .ref n) (y := .ref m) (f := F__law_equal_r k) (n := ys.length) hz (lenF_ref hm) rfl rfl fun i hi => ⟨xs[i], ys[i], by rw [ixM_ref hn]; simp [atI_nat' (xs := xs) (i := i) (by omega)], by rw [ixM_ref hm]; simp [atI_nat' hi], H i _ hi⟩
  have e2 := all_true (h := h) (ds := rngD 0 ys.length)
  simp [M__law_equal, defM, tyN_ref hn, tyN_ref hm, lenF_ref hn, lenF_ref hm, hl, e, e2]
  exact trunc_app rfl
theorem zip_of {α β : Type} {P : α → β → Prop} {xs : List α} {ys : List β} (H : ∀ p ∈ xs.zip ys, P p.1 p.2) (i : Nat) (h1 : i < xs.length) (h2 : i < ys.length) : P xs[i] ys[i] := by
  have : (xs[i], ys[i]) ∈ xs.zip ys := by
    have e : (xs.zip ys)[i]'(by simp; omega) = (xs[i], ys[i]) := by simp
    rw [← e]
    exact List.getElem_mem _
  exact H _ this
theorem eq_tupZ {xs ys : List D} (hl : xs.length = ys.length) (hz : ys.length ≤ 16777215) (H : ∀ p ∈ xs.zip ys, F__law_equal_r k [p.1, p.2] h = .ok (.bl true) h) : F__law_equal_r (k + 1) [.tup xs, .tup ys] h = .ok (.bl true) h := eq_tup hl hz fun i h1 h2 => zip_of (P := fun x y => F__law_equal_r k [x, y] h = .ok (.bl true) h) H i h1 h2
theorem eq_refZ {n m : Nat} {xs ys : List D} (hn : h[n]? = some (.lst xs)) (hm : h[m]? = some (.lst ys)) (hl : xs.length = ys.length) (hz : ys.length ≤ 16777215) (H : ∀ p ∈ xs.zip ys, F__law_equal_r k [p.1, p.2] h = .ok (.bl true) h) : F__law_equal_r (k + 1) [.ref n, .ref m] h = .ok (.bl true) h := eq_ref hn hm hl hz fun i h1 h2 => zip_of (P := fun x y => F__law_equal_r k [x, y] h = .ok (.bl true) h) H i h1 h2
@[simp] theorem isM_bn {n b : Bool} : isM n (.bl b) .non h = .ok (.bl n) h := rfl
theorem addM_rr {n m : Nat} : addM (.ref n) (.ref m) h = match h[n]?, h[m]? with
    | some (.lst xs), some (.lst ys) => if xs.length + ys.length ≤ sizeLine then newL h (xs ++ ys) else .stuck
    | _, _ => .stuck := rfl
theorem three {h : IH} (e : h.length = 3) : ∃ a b c, h = [a, b, c] := by
  match h, e with
  | [a, b, c], _ => exact ⟨a, b, c, rfl⟩
theorem addM_ref {n m : Nat} {xs ys : List D} (hn : h[n]? = some (.lst xs)) (hm : h[m]? = some (.lst ys)) (hz : xs.length + ys.length ≤ 16777216 := by decide) : addM (.ref n) (.ref m) h = .ok (.ref h.length) (h ++ [.lst (xs ++ ys)]) := by
  unfold addM
  simp only [hn, hm]
  rw [if_pos (le_line hz)]
  rfl
theorem eq_bl : F__law_equal_r (k + 1) [.bl b, .bl b] h = .ok (.bl true) h := by
  rw [eqr_succ]
  have e : eqM (.bl b) (.bl b) h = .ok (.bl true) h := by cases b <;> rfl
  simp [M__law_equal, defM, e]
theorem eq_str {x : Str} (hx : eqM (.str x) (.str x) h = .ok (.bl true) h) : F__law_equal_r (k + 1) [.str x, .str x] h = .ok (.bl true) h := by
  rw [eqr_succ]
  simp [M__law_equal, defM, hx]
theorem eq_dr {a : Rat} : F__law_equal_r (k + 1 + 1) [dr a, dr a] h = .ok (.bl true) h := by
  refine eq_tupZ rfl (by simp) fun p hp => ?_
  simp at hp
  rcases hp with rfl | rfl <;> simp [eq_int]
end
end Zc
/-! C2D: rationals drawn. -/
namespace Zc
open PySem L2 Z Q
structure Drawn (m : Nat) (h : IH) (s : Nat) (h' : IH) : Prop where
  st : Strm m h' s
  len : h'.length = h.length
  keep : ∀ i, i ≠ s → h'[i]? = h[i]?
theorem Drew.dr {n : Nat} {h h' : IH} {s : Nat} (w : Drew n h s h') : Drawn (n + 1) h s h' := ⟨w.st, w.len, w.keep⟩
theorem Drawn.trans {n m : Nat} {h h' h'' : IH} {s : Nat} (w : Drawn n h s h') (v : Drawn m h' s h'') : Drawn m h s h'' := ⟨v.st, v.len.trans w.len, fun i hi => (v.keep i hi).trans (w.keep i hi)⟩
theorem Drawn.get {n : Nat} {h h' : IH} {s : Nat} (w : Drawn n h s h') {i : Nat} {o : IO} (e : h[i]? = some o) (ne : i ≠ s) : h'[i]? = some o := (w.keep i ne).trans e
theorem ev_law_ratio {n : Nat} {h : IH} {s : Nat} {top most : Int} (w : Strm n h s) (hn : n ≤ 900000000) (h0 : 0 ≤ top) (h1 : 0 < most) {b : Nat} (ht : top < 2 ^ b) (hm : most < 2 ^ b) (hb : b ≤ 8000 := by decide) (hb0 : 0 < b := by decide) :
    ∃ (r : Rat) (h' : IH), F__law_ratio [.ref s, .int top, .int most] h = .ok (dr r) h' ∧ RB (b + 1) r ∧ Drawn (n + 2) h s h' := by
  have bt : Bit b top := Bit.pos h0 ht
  have s1 : small 2 top := small_of (a := 2) (Bit.pos (by decide) (by decide)) bt (by omega) (by decide) hb0
  obtain ⟨d1, h1', e1, d10, d11, w1⟩ := ev_next w (by omega) (show (0 : Int) < 2 * top + 1 by omega) (b := b + 2) (Bit.pos (by omega) (by rw [Int.pow_succ, Int.pow_succ]; omega)) (by omega) (by omega)
  obtain ⟨d2, h2', e2, d20, d21, w2⟩ := ev_next w1.st (by omega) h1 (b := b) (Bit.pos (by omega) hm) (by omega) hb0
  have bn : Bit (b + 1) (d1 - top) := by
    have : (d1 - top).natAbs ≤ top.natAbs := by omega
    exact (bt.le this).mono (by omega)
  have bd : Bit (b + 1) (1 + d2) := Bit.pos (by omega) (by rw [Int.pow_succ]; omega)
  have e3 := ev_law_lowR (n := d1 - top) (d := 1 + d2) (h := h2') (by omega) bd (by omega) (by omega)
  refine ⟨Rat.divInt (d1 - top) (1 + d2), h2', ?_, RB.divInt bn bd (by omega), w1.dr.trans w2.dr⟩
  simp [F__law_ratio, M__law_ratio, defM, mulM_int s1, e1, e2, e3]
  exact trunc_len (w2.len.trans w1.len)
end Zc
set_option exponentiation.threshold 10
/-! C3L: square roots, fields, elements. -/
namespace Zc
open PySem L2 Z Q
/-! ### squares -/
def IsSq (n : Int) : Prop := ∃ k : Int, k * k = n
open Classical in
noncomputable def sq (n : Int) : Bool := decide (IsSq n)
theorem sq_iff {n : Int} : sq n = true ↔ IsSq n := by simp [sq]
theorem sq_root {n r : Int} (h0 : 0 ≤ r) (h1 : r * r ≤ n) (h2 : n < (r + 1) * (r + 1)) : decide (r * r = n) = sq n := by
  have : (r * r = n) ↔ IsSq n := by
    refine ⟨fun h => ⟨r, h⟩, fun ⟨k, hk⟩ => ?_⟩
    have key : ∀ j : Int, 0 ≤ j → j * j = n → r * r = n := fun j hj e => by
      have a1 : j ≤ r := by
        by_cases c : j ≤ r
        · exact c
        · have := Int.mul_le_mul (show r + 1 ≤ j by omega) (show r + 1 ≤ j by omega) (by omega) hj
          omega
      have a2 : r ≤ j := by
        by_cases c : r ≤ j
        · exact c
        · have h3 := Int.mul_le_mul (show j + 1 ≤ r by omega) (show j + 1 ≤ r by omega) (by omega) h0
          have h4 : (j + 1) * (j + 1) = j * j + j + j + 1 := by rw [Int.add_mul, Int.mul_add]; omega
          omega
      have : j = r := by omega
      rw [← this, e]
    by_cases c : 0 ≤ k
    · exact key k c hk
    · exact key (-k) (by omega) (by rw [Int.neg_mul_neg]; exact hk)
  simp [sq, this]
theorem two_sq : ∀ (k m : Nat), m * m = 2 * (k * k) → k = 0 := by
  intro k
  induction k using Nat.strongRecOn with
  | ind k ih =>
    intro m h
    by_cases c : k = 0
    · exact c
    · have hm : m % 2 = 0 := by
        rcases Nat.mod_two_eq_zero_or_one m with z | z
        · exact z
        · have : (m * m) % 2 = 1 := by rw [Nat.mul_mod, z]
          omega
      obtain ⟨a, rfl⟩ : ∃ a, m = 2 * a := ⟨m / 2, by omega⟩
      have h2 : k * k = 2 * (a * a) := by
        have : 2 * a * (2 * a) = 2 * (2 * (a * a)) := by ac_rfl
        omega
      have ha : a < k := by
        by_cases q : a < k
        · exact q
        · have := Nat.mul_le_mul (show k ≤ a by omega) (show k ≤ a by omega)
          have : 0 < k * k := Nat.mul_pos (by omega) (by omega)
          omega
      have h3 := ih a ha k h2
      rw [h3] at h2
      rcases Nat.mul_eq_zero.mp (show k * k = 0 from h2) with z | z <;> exact z
theorem not_sq2 {k : Int} (hk : 0 < k * k) : ¬ IsSq (k * k * 2) := fun ⟨m, hm⟩ => by
  have h1 : m.natAbs * m.natAbs = 2 * (k.natAbs * k.natAbs) := by
    rw [← Int.natAbs_mul, ← Int.natAbs_mul, hm, Int.natAbs_mul, Nat.mul_comm]
    rfl
  have := two_sq _ _ h1
  have : k = 0 := by omega
  subst this
  simp at hk
section
variable {h : IH} {n : Int}
/-! ### the program's root -/
theorem ev_is_square (h0 : 0 ≤ n) (hb : Bit 8000 n) : F_is_square [.int n] h = .ok (.bl (sq n)) h := by
  have l : n.toNat.log2 < 13000 := by
    have := hb.log (by decide)
    have e : n.toNat = n.natAbs := by omega
    rw [e]; omega
  have e1 : isqrtF [.int n] h = .ok (.int ((Float64.isqrt n.toNat : Nat) : Int)) h := if_pos ⟨h0, l⟩
  obtain ⟨a1, a2⟩ := Float64.isqrt_spec n.toNat
  generalize Float64.isqrt n.toNat = r at *
  have a3 : (r : Int) * r ≤ n := by
    have : ((r * r : Nat) : Int) ≤ (n.toNat : Int) := by exact_mod_cast a1
    rw [Int.toNat_of_nonneg h0] at this
    simpa using this
  have a4 : n < ((r : Int) + 1) * (r + 1) := by
    have : ((n.toNat : Nat) : Int) < (((r + 1) * (r + 1) : Nat) : Int) := by exact_mod_cast a2
    rw [Int.toNat_of_nonneg h0] at this
    simpa using this
  have rb : Bit 8000 (r : Int) := hb.le (by
    have : r ≤ r * r := Nat.le_mul_self r
    omega)
  have e2 := mulM_int (h := h) (small_of rb rb)
  have e3 := sq_root (Int.natCast_nonneg r) a3 a4
  simp [F_is_square, M_is_square, defM, e1, e2, e3]
/-! ### the law's root -/
noncomputable def rootB1 : MS := seqM (ifM (btestM (binM gtM (binM mulM (varM 2) (varM 2)) (varM 0))) brkM nextM)
  (setM 2 (binM mulM (varM 2) (constM (.int 2))))
noncomputable def rootB2 : MS := seqM (ifM (btestM (binM ltM (binM subM (varM 2) (varM 1)) (constM (.int 2)))) brkM nextM)
  (seqM (setM 4 (binM fdivM (binM addM (varM 1) (varM 2)) (constM (.int 2))))
  (ifM (btestM (binM gtM (binM mulM (varM 4) (varM 4)) (varM 0))) (setM 2 (varM 4)) (setM 1 (varM 4))))
theorem bit2 : Bit 4 2 := Bit.pos (by decide) (by decide)
theorem bitpow {j : Nat} (hj : j ≤ 3500) : Bit 3501 ((2 : Int) ^ j) := Bit.pos (Int.le_of_lt (Int.pow_pos (by decide))) (by
  have : (2 : Nat) ^ j < 2 ^ 3501 := Nat.pow_lt_pow_right (by decide) (by omega)
  exact_mod_cast this)
theorem root_t1 {lo hi : Int} {d : D} {ds : List D} {x y : Option D} (hb : Bit 3501 hi) : forS (gnameM 3) rootB1 (d :: ds) [some (.int n), some (.int lo), some (.int hi), x, y] h =
    if n < hi * hi then .nx [some (.int n), some (.int lo), some (.int hi), some d, y] h else forS (gnameM 3) rootB1 ds [some (.int n), some (.int lo), some (.int (hi * 2)), some d, y] h := by
  have e1 := fun h => mulM_int (h := h) (small_of hb hb)
  have e2 := fun h => mulM_int (h := h) (small_of hb bit2)
  rw [forS_cons, turnM_eq]
  by_cases c : n < hi * hi
  · simp [rootB1, e1, c]
  · simp [rootB1, e1, e2, c]
theorem root_l1 {y : Option D} : ∀ (t j : Nat) (ds : List D) (x : Option D), n < 2 ^ (j + t) * 2 ^ (j + t) → t < ds.length → j + t ≤ 3500 →
    ∃ (j' : Nat) (x' : Option D), j' ≤ j + t ∧ forS (gnameM 3) rootB1 ds [some (.int n), some (.int 0), some (.int (2 ^ j)), x, y] h = .nx [some (.int n), some (.int 0), some (.int (2 ^ j')), x', y] h ∧ n < 2 ^ j' * 2 ^ j'
  | t, j, [], x, _, hl, _ => by simp at hl
  | t, j, d :: ds, x, hn, hl, hj => by
    rw [root_t1 (bitpow (by omega))]
    by_cases c : n < 2 ^ j * 2 ^ j
    · rw [if_pos c]
      exact ⟨j, some d, by omega, rfl, c⟩
    · rw [if_neg c]
      match t, hn, hl, hj with
      | 0, hn, _, _ => exact absurd hn c
      | t + 1, hn, hl, hj =>
        have e : (2 : Int) ^ j * 2 = 2 ^ (j + 1) := (Int.pow_succ 2 j).symm
        rw [e]
        obtain ⟨j', x', a1, a2, a3⟩ := root_l1 t (j + 1) ds (some d) (by rw [show j + 1 + t = j + (t + 1) by omega]; exact hn) (by simp at hl; omega) (by omega)
        exact ⟨j', x', by omega, a2, a3⟩
theorem root_t2 {lo hi : Int} {d : D} {ds : List D} {x y : Option D} (c : 2 ≤ hi - lo) (hm : Bit 3510 ((lo + hi) / 2)) : forS (gnameM 3) rootB2 (d :: ds) [some (.int n), some (.int lo), some (.int hi), x, y] h =
    if n < (lo + hi) / 2 * ((lo + hi) / 2) then forS (gnameM 3) rootB2 ds [some (.int n), some (.int lo), some (.int ((lo + hi) / 2)), some d, some (.int ((lo + hi) / 2))] h
      else forS (gnameM 3) rootB2 ds [some (.int n), some (.int ((lo + hi) / 2)), some (.int hi), some d, some (.int ((lo + hi) / 2))] h := by
  have e1 := fun h => mulM_int (h := h) (small_of hm hm)
  have e2 := fun x h => fdivM_pos (x := x) (y := 2) (h := h) (by decide) bit2
  have c' : ¬ hi - lo < 2 := by omega
  rw [forS_cons, turnM_eq]
  by_cases q : n < (lo + hi) / 2 * ((lo + hi) / 2)
  · simp [rootB2, e1, e2, c', q]
  · simp [rootB2, e1, e2, c', q]
theorem root_t0 {lo hi : Int} {d : D} {ds : List D} {x y : Option D} (c : hi - lo < 2) : forS (gnameM 3) rootB2 (d :: ds) [some (.int n), some (.int lo), some (.int hi), x, y] h = .nx [some (.int n), some (.int lo), some (.int hi), some d, y] h := by
  rw [forS_cons, turnM_eq]
  simp [rootB2, c]
theorem root_l2 : ∀ (t : Nat) (ds : List D) (lo hi : Int) (x y : Option D), hi - lo = 2 ^ t → lo * lo ≤ n → n < hi * hi → 0 ≤ lo → hi ≤ 2 ^ 3500 → t < ds.length →
    ∃ (r hi' : Int) (x' y' : Option D), forS (gnameM 3) rootB2 ds [some (.int n), some (.int lo), some (.int hi), x, y] h = .nx [some (.int n), some (.int r), some (.int hi'), x', y'] h ∧ 0 ≤ r ∧ r * r ≤ n ∧ n < (r + 1) * (r + 1) ∧ r ≤ 2 ^ 3500
  | t, [], _, _, _, _, _, _, _, _, _, hl => by simp at hl
  | 0, d :: ds, lo, hi, x, y, hg, h1, h2, h0, hh, _ => by
    rw [root_t0 (by rw [hg]; decide)]
    have : hi = lo + 1 := by
      have : (2 : Int) ^ 0 = 1 := rfl
      omega
    subst this
    exact ⟨lo, _, _, _, rfl, h0, h1, h2, by omega⟩
  | t + 1, d :: ds, lo, hi, x, y, hg, h1, h2, h0, hh, hl => by
    have p : (2 : Int) ^ (t + 1) = 2 ^ t * 2 := Int.pow_succ 2 t
    have pp : (0 : Int) < 2 ^ t := Int.pow_pos (by decide)
    generalize hP : (2 : Int) ^ t = P at *
    have em : (lo + hi) / 2 = lo + P := by omega
    have bm : Bit 3510 ((lo + hi) / 2) := by
      rw [em]
      exact Bit.pos (by omega) (by
        have : (2 : Int) ^ 3500 < 2 ^ 3510 := by
          have : (2 : Nat) ^ 3500 < 2 ^ 3510 := Nat.pow_lt_pow_right (by decide) (by decide)
          exact_mod_cast this
        omega)
    rw [root_t2 (by omega) bm]
    split
    · rename_i c
      rw [em] at c ⊢
      exact root_l2 t ds lo (lo + P) (some d) (some (.int (lo + P))) (by rw [hP]; omega) h1 c h0 (by omega) (by simp at hl; omega)
    · rename_i c
      rw [em] at c ⊢
      exact root_l2 t ds (lo + P) hi (some d) (some (.int (lo + P))) (by rw [hP]; omega) (by omega) h2 (by omega) hh (by simp at hl; omega)
theorem ev_law_root (h0 : 0 ≤ n) (hb : n < 2 ^ 3400 * 2 ^ 3400) : ∃ r : Int, F__law_root [.int n] h = .ok (.int r) h ∧ 0 ≤ r ∧ r * r ≤ n ∧ n < (r + 1) * (r + 1) ∧ r ≤ 2 ^ 3500 := by
  obtain ⟨j, x1, j1, e1, j2⟩ := root_l1 (n := n) (h := h) (y := none) 3400 0 (rngD 0 4000) none (by simpa using hb) (by rw [rngD_length]; decide) (by decide)
  have hh : (2 : Int) ^ j ≤ 2 ^ 3500 := by
    have : (2 : Nat) ^ j ≤ 2 ^ 3500 := Nat.pow_le_pow_right (by decide) (by omega)
    exact_mod_cast this
  obtain ⟨r, hi', x2, y2, e2, a1, a2, a3, a4⟩ := root_l2 (n := n) (h := h) j (rngD 0 4000) 0 (2 ^ j) x1 none (by omega) (by simpa using h0) j2 (by decide) hh (by rw [rngD_length]; omega)
  refine ⟨r, ?_, a1, a2, a3, a4⟩
  have er : ∀ env : Ev, rngI1 (aconsM (constM (.int 4000)) anilM) env h = .ok (.snap (rngD 0 4000)) h := fun env => rngI1_int (j := 4000) (n := 4000) (by simp) (by decide) (by decide) (by decide)
  rw [Int.pow_zero] at e1
  unfold rootB1 at e1
  unfold rootB2 at e2
  simp only [F__law_root, M__law_root, defM, seqM_eq, setM_eq, constM_eq, List.map, List.length, List.cons_append, List.nil_append, List.append, List.replicate, List.getElem?_cons_zero, List.getElem?_cons_succ, R.bindG_ok, List.set, forM_eq, er, e1, e2, retM_eq, varM_eq, finM_rt, trunc_same]
theorem ev_law_is_square (h0 : 0 ≤ n) (hb : n < 2 ^ 3400 * 2 ^ 3400) : F__law_is_square [.int n] h = .ok (.bl (sq n)) h := by
  obtain ⟨r, e, a1, a2, a3, a4⟩ := ev_law_root (h := h) h0 hb
  have rb : Bit 3502 r := Bit.pos a1 (by
    have : (2 : Int) ^ 3500 < 2 ^ 3502 := by
      have : (2 : Nat) ^ 3500 < 2 ^ 3502 := Nat.pow_lt_pow_right (by decide) (by decide)
      exact_mod_cast this
    omega)
  have e2 := mulM_int (h := h) (small_of rb rb)
  have e3 := sq_root a1 a2 a3
  simp [F__law_is_square, M__law_is_square, defM, e, e2, e3]
end
end Zc
set_option exponentiation.threshold 100
/-! C3D: fields and elements drawn. -/
namespace Zc
open PySem L2 Z Q
/-- draws with new objects -/
structure Grew (m : Nat) (h : IH) (s : Nat) (h' : IH) : Prop where
  st : Strm m h' s
  len : h.length ≤ h'.length
  keep : ∀ i, i < h.length → i ≠ s → h'[i]? = h[i]?
theorem Drew.gr {n : Nat} {h h' : IH} {s : Nat} (w : Drew n h s h') : Grew (n + 1) h s h' := ⟨w.st, Nat.le_of_eq w.len.symm, fun i _ ne => w.keep i ne⟩
theorem Drawn.gr {n : Nat} {h h' : IH} {s : Nat} (w : Drawn n h s h') : Grew n h s h' := ⟨w.st, Nat.le_of_eq w.len.symm, fun i _ ne => w.keep i ne⟩
theorem Grew.trans {n m : Nat} {h h' h'' : IH} {s : Nat} (w : Grew n h s h') (v : Grew m h' s h'') : Grew m h s h'' := ⟨v.st, Nat.le_trans w.len v.len, fun i hi ne => (v.keep i (Nat.lt_of_lt_of_le hi w.len) ne).trans (w.keep i hi ne)⟩
theorem Grew.get {n : Nat} {h h' : IH} {s : Nat} (w : Grew n h s h') {i : Nat} {o : IO} (e : h[i]? = some o) (ne : i ≠ s) : h'[i]? = some o := (w.keep i (List.getElem?_eq_some_iff.mp e).1 ne).trans e
theorem Grew.app {n : Nat} {h : IH} {g : IH} {s : Nat} (w : Strm n h s) : Grew n h s (h ++ g) := ⟨w.app, by simp, fun i hi _ => List.getElem?_append_left hi⟩
theorem Grew.mono {n m : Nat} {h h' : IH} {s : Nat} (w : Grew n h s h') (c : n ≤ m) : Grew m h s h' := ⟨w.st.mono c, w.len, w.keep⟩
theorem Grew.refl {n : Nat} {h : IH} {s : Nat} (w : Strm n h s) : Grew n h s h := ⟨w, Nat.le_refl _, fun _ _ _ => rfl⟩
/-- a def's end: what it gives, what stands -/
theorem trunc_gr {h h' : IH} {d : D} {n m s : Nat} (w0 : Strm n h s) (hn : n ≤ m) (w : Grew m h s h') : ∃ h'', trunc h (.ok d h') = .ok d h'' ∧ Grew m h s h'' := by
  rw [trunc_ok]
  split
  · exact ⟨h, rfl, Grew.refl (w0.mono hn)⟩
  · exact ⟨h', rfl, w⟩
theorem lt45 {f : Int} (h : f < 2 ^ 45) : f < 2 ^ 3400 * 2 ^ 3400 := by
  have : (2 : Int) ^ 45 ≤ 2 ^ 3400 * 2 ^ 3400 := by
    rw [← Int.pow_add]
    have : (2 : Nat) ^ 45 ≤ 2 ^ (3400 + 3400) := Nat.pow_le_pow_right (by decide) (by decide)
    exact_mod_cast this
  omega
theorem field_of {f : Int} (h0 : 0 < f) : f * 2 = 0 ∨ sq f = true → (sq f = true → ¬ IsSq (f * 2)) := fun _ h => by
  obtain ⟨k, rfl⟩ := sq_iff.mp h
  exact not_sq2 h0
theorem ev_law_field {n : Nat} {h : IH} {s : Nat} (w : Strm n h s) (hn : n ≤ 900000000) :
    ∃ (f : Int) (h' : IH), F__law_field [.ref s] h = .ok (.int f) h' ∧ 0 ≤ f ∧ f < 2 ^ 45 ∧ (f = 0 ∨ ¬ IsSq f) ∧ Grew (n + 5) h s h' := by
  obtain ⟨d0, h1, e0, d00, d01, w1⟩ := ev_next w (by omega) (show (0 : Int) < 6 by decide) (b := 10) (Bit.pos (by decide) (by decide))
  by_cases c0 : d0 = 0
  · subst c0
    obtain ⟨h', e, g⟩ := trunc_gr (d := .int 0) (m := n + 5) w (by omega) (w1.gr.mono (by omega))
    exact ⟨0, h', by simp [F__law_field, M__law_field, defM, e0, e], by decide, by decide, .inl rfl, g⟩
  · obtain ⟨d1, h2, e1, d10, d11, w2⟩ := ev_next w1.st (by omega) (show (0 : Int) < 200 by decide) (b := 10) (Bit.pos (by decide) (by decide))
    obtain ⟨d2, h3, e2, d20, d21, w3⟩ := ev_next w2.st (by omega) (show (0 : Int) < 200 by decide) (b := 10) (Bit.pos (by decide) (by decide))
    obtain ⟨d3, h4, e3, d30, d31, w4⟩ := ev_next (w3.st.app (g := [IO.lst [D.int 2, D.int 3, D.int 5, D.int 8, D.int 12, D.int 18, D.int (1 + d1), D.int (1 + d2)]])) (by omega) (show (0 : Int) < 8 by decide) (b := 10) (Bit.pos (by decide) (by decide))
    have g4 : Grew (n + 1 + 1 + 1 + 1) h s h4 := ((w1.gr.trans w2.gr).trans w3.gr).trans ((Grew.app w3.st).trans w4.gr)
    obtain ⟨f0, e4, f00, f01⟩ : ∃ f0, ixM (.ref h3.length) (.int d3) h4 = .ok (.int f0) h4 ∧ 0 < f0 ∧ f0 ≤ 200 := by
      have lt3 := w3.st.lt
      have g : h4[h3.length]? = some (.lst [D.int 2, D.int 3, D.int 5, D.int 8, D.int 12, D.int 18, D.int (1 + d1), D.int (1 + d2)]) := w4.get (by simp) (by omega)
      rw [ixM_ref g]
      have : d3 = 0 ∨ d3 = 1 ∨ d3 = 2 ∨ d3 = 3 ∨ d3 = 4 ∨ d3 = 5 ∨ d3 = 6 ∨ d3 = 7 := by omega
      rcases this with rfl | rfl | rfl | rfl | rfl | rfl | rfl | rfl
      · exact ⟨2, by rfl, by decide, by decide⟩
      · exact ⟨3, by rfl, by decide, by decide⟩
      · exact ⟨5, by rfl, by decide, by decide⟩
      · exact ⟨8, by rfl, by decide, by decide⟩
      · exact ⟨12, by rfl, by decide, by decide⟩
      · exact ⟨18, by rfl, by decide, by decide⟩
      · exact ⟨1 + d1, by rfl, by omega, by omega⟩
      · exact ⟨1 + d2, by rfl, by omega, by omega⟩
    have fin : ∀ (f1 : Int) (h5 : IH), 0 < f1 → f1 < 2 ^ 44 → Grew (n + 5) h s h5 →
        (∀ (r : R D), (if sq f1 = true then trunc h (.ok (.int (f1 * 2)) h5) else trunc h (.ok (.int f1) h5)) = r → F__law_field [.ref s] h = r) →
        ∃ (f : Int) (h' : IH), F__law_field [.ref s] h = .ok (.int f) h' ∧ 0 ≤ f ∧ f < 2 ^ 45 ∧ (f = 0 ∨ ¬ IsSq f) ∧ Grew (n + 5) h s h' := fun f1 h5 f10 f11 g5 hF => by
      by_cases c : sq f1 = true
      · obtain ⟨h', e, g⟩ := trunc_gr (d := .int (f1 * 2)) w (by omega) g5
        exact ⟨f1 * 2, h', hF _ (by rw [if_pos c, e]), by omega, by omega, .inr (field_of f10 (.inr c) c), g⟩
      · obtain ⟨h', e, g⟩ := trunc_gr (d := .int f1) w (by omega) g5
        exact ⟨f1, h', hF _ (by rw [if_neg c, e]), by omega, by omega, .inr (fun z => c (sq_iff.mpr z)), g⟩
    have sm : ∀ f : Int, 0 < f → f < 2 ^ 44 → small f 2 := fun f a b => small_of (Bit.pos (k := 44) (by omega) b) bit2
    by_cases c1 : d0 = 1
    · subst c1
      obtain ⟨d5, h5, e5, d50, d51, w5⟩ := ev_next w4.st (by omega) (show (0 : Int) < 1000000000000 by decide) (b := 44) (Bit.pos (by decide) (by decide))
      have es := ev_law_is_square (n := 1 + d5) (h := h5) (by omega) (lt45 (by omega))
      refine fin (1 + d5) h5 (by omega) (by omega) (g4.trans w5.gr) fun r hr => ?_
      rw [← hr]
      by_cases c : sq (1 + d5) = true
      · simp [F__law_field, M__law_field, defM, e0, lstM_eq, newL_eq, e1, e2, e3, e4, powM_int, e5, es, c, mulM_int (sm (1 + d5) (by omega) (by omega))]
      · simp [F__law_field, M__law_field, defM, e0, lstM_eq, newL_eq, e1, e2, e3, e4, powM_int, e5, es, c]
    · have es := ev_law_is_square (n := f0) (h := h4) (by omega) (lt45 (by omega))
      refine fin f0 h4 (by omega) (by omega) (g4.mono (by omega)) fun r hr => ?_
      rw [← hr]
      by_cases c : sq f0 = true
      · simp [F__law_field, M__law_field, defM, e0, c0, c1, lstM_eq, newL_eq, e1, e2, e3, e4, es, c, mulM_int (sm f0 (by omega) (by omega))]
      · simp [F__law_field, M__law_field, defM, e0, c0, c1, lstM_eq, newL_eq, e1, e2, e3, e4, es, c]
/-- an element -/
def de (x y : Rat) : D := .tup [dr x, dr y]
theorem ev_law_element {n : Nat} {h : IH} {s : Nat} {f top most : Int} (w : Strm n h s) (hn : n ≤ 800000000) (h0 : 0 ≤ top) (h1 : 0 < most) {b : Nat} (ht : top < 2 ^ b) (hm : most < 2 ^ b) (hb : b ≤ 8000 := by decide) (hb0 : 0 < b := by decide) :
    ∃ (x y : Rat) (h' : IH), F__law_element [.ref s, .int f, .int top, .int most] h = .ok (de x y) h' ∧ RB (b + 1) x ∧ RB (b + 1) y ∧ (f = 0 → y = 0) ∧ Drawn (n + 6) h s h' := by
  obtain ⟨x, h1', e1, bx, w1⟩ := ev_law_ratio w (by omega) h0 h1 ht hm hb hb0
  obtain ⟨y, h2', e2, by', w2⟩ := ev_law_ratio w1.st (by omega) h0 h1 ht hm hb hb0
  have b0 : RB (b + 1) 0 := ⟨Bit.pos (by decide) (Int.pow_pos (by decide)), Bit.pos (by decide) (by
    have : (2 : Nat) ^ 1 ≤ 2 ^ (b + 1) := Nat.pow_le_pow_right (by decide) (by omega)
    have : (2 : Int) ^ 1 ≤ 2 ^ (b + 1) := by exact_mod_cast this
    show (1 : Int) < _
    omega)⟩
  have z0 : D.tup [D.int 0, D.int 1] = dr 0 := rfl
  have last : ∀ (y' : Rat) (h3 : IH), Drawn (n + 5) h s h3 → RB (b + 1) y' → (f = 0 → y' = 0) → (∀ d5 h4, F__law_next [.ref s, .int 8] h3 = .ok (.int d5) h4 → h4.length = h.length → F__law_element [.ref s, .int f, .int top, .int most] h = .ok (.tup [if d5 = 0 then dr 0 else dr x, dr y']) h4) →
      ∃ (x y : Rat) (h' : IH), F__law_element [.ref s, .int f, .int top, .int most] h = .ok (de x y) h' ∧ RB (b + 1) x ∧ RB (b + 1) y ∧ (f = 0 → y = 0) ∧ Drawn (n + 6) h s h' := fun y' h3 w3 by3 hf hF => by
    obtain ⟨d5, h4, e5, d50, d51, w4⟩ := ev_next w3.st (by omega) (show (0 : Int) < 8 by decide) (b := 10) (Bit.pos (by decide) (by decide))
    have := hF d5 h4 e5 (w4.len.trans w3.len)
    by_cases c : d5 = 0
    · rw [if_pos c] at this
      exact ⟨0, y', h4, this, b0, by3, hf, w3.trans w4.dr⟩
    · rw [if_neg c] at this
      exact ⟨x, y', h4, this, bx, by3, hf, w3.trans w4.dr⟩
  by_cases c : f = 0
  · subst c
    have w12 := w1.trans w2
    refine last 0 h2' ⟨w12.st.mono (by omega), w12.len, w12.keep⟩ b0 (fun _ => rfl) fun d5 h4 e5 l4 => ?_
    by_cases c5 : d5 = 0
    · simp [F__law_element, M__law_element, defM, tupM_eq, e1, e2, e5, c5, z0]
      exact trunc_len l4
    · simp [F__law_element, M__law_element, defM, tupM_eq, e1, e2, e5, c5, z0]
      exact trunc_len l4
  · obtain ⟨d4, h3', e4, d40, d41, w3⟩ := ev_next w2.st (by omega) (show (0 : Int) < 6 by decide) (b := 10) (Bit.pos (by decide) (by decide))
    have w13 := (w1.trans w2).trans w3.dr
    by_cases c4 : d4 = 0
    · refine last 0 h3' ⟨w13.st.mono (by omega), w13.len, w13.keep⟩ b0 (fun z => absurd z c) fun d5 h4 e5 l4 => ?_
      by_cases c5 : d5 = 0
      · simp [F__law_element, M__law_element, defM, tupM_eq, e1, e2, e4, e5, c, c4, c5, z0]
        exact trunc_len l4
      · simp [F__law_element, M__law_element, defM, tupM_eq, e1, e2, e4, e5, c, c4, c5, z0]
        exact trunc_len l4
    · refine last y h3' ⟨w13.st.mono (by omega), w13.len, w13.keep⟩ by' (fun z => absurd z c) fun d5 h4 e5 l4 => ?_
      by_cases c5 : d5 = 0
      · simp [F__law_element, M__law_element, defM, tupM_eq, e1, e2, e4, e5, c, c4, c5, z0]
        exact trunc_len l4
      · simp [F__law_element, M__law_element, defM, tupM_eq, e1, e2, e4, e5, c, c4, c5]
        exact trunc_len l4
end Zc
/-! C4L: elements' arithmetic. -/
namespace Zc
open PySem L2 Z Q
section
variable {h g : IH} {f : Int} {x y u v : Rat} {k l m : Nat}
@[simp] theorem okV_de : okV h (de x y) = .ok (de x y) h := rfl
@[simp] theorem tyN_de : tyN h (de x y) = some "tuple" := rfl
@[simp] theorem ixM_de0 : ixM (de x y) (.int 0) h = .ok (dr x) h := by simp [de]
@[simp] theorem ixM_de1 : ixM (de x y) (.int 1) h = .ok (dr y) h := by simp [de]
@[simp] theorem lenF_de : lenF [de x y] h = .ok (.int 2) h := rfl
@[simp] theorem lenF_dr : lenF [dr x] h = .ok (.int 2) h := rfl
theorem de_is : D.tup [dr x, dr y] = de x y := rfl
theorem dr_int : D.tup [.int f, .int 1] = dr (f : Rat) := rfl
theorem dr_neg : D.tup [.int (-x.num), .int (x.den : Int)] = dr (-x) := rfl
theorem bit1 {k : Nat} (hk : 0 < k) : Bit k 1 := by
  have : (2 : Nat) ^ 1 ≤ 2 ^ k := Nat.pow_le_pow_right (by decide) (by omega)
  show (1 : Int).natAbs < 2 ^ k
  have e : (1 : Int).natAbs = 1 := rfl
  omega
theorem RB.int (hf : Bit k f) (hk : 0 < k := by decide) : RB k (f : Rat) := ⟨hf, bit1 hk⟩
theorem RB.zero (hk : 0 < k := by decide) : RB k 0 := ⟨by show (0 : Int).natAbs < 2 ^ k; exact Nat.two_pow_pos k, bit1 hk⟩
@[simp] theorem app0 : (h ++ g)[h.length]? = g[0]? := by rw [List.getElem?_append_right (by omega)]; simp
@[simp] theorem app1 : (h ++ g)[h.length + 1]? = g[1]? := by rw [List.getElem?_append_right (by omega)]; simp
@[simp] theorem app2 : (h ++ g)[h.length + 1 + 1]? = g[2]? := by rw [List.getElem?_append_right (by omega)]; congr 1; omega
@[simp] theorem app3 : (h ++ g)[h.length + 1 + 1 + 1]? = g[3]? := by rw [List.getElem?_append_right (by omega)]; congr 1; omega
theorem appk {i : Nat} {o : IO} (e : g[i]? = some o) : (h ++ g)[h.length + i]? = some o := by
  rw [List.getElem?_append_right (by omega), ← e]
  congr 1
  omega
theorem ev_whole : F_whole [.int f] h = .ok (dr (f : Rat)) h := by
  simp [F_whole, M_whole, defM, tupM_eq, dr_int]
theorem ev_add (hx : RB k x) (hy : RB k y) (hu : RB l u) (hv : RB l v) (hk : k + l ≤ 9000 := by decide) (h0 : 0 < k := by decide) (h1 : 0 < l := by decide) : F_add [.int f, de x y, de u v] h = .ok (de (x + u) (y + v)) h := by
  simp [F_add, M_add, defM, tupM_eq, ev_plus hx hu hk h0 h1, ev_plus hy hv hk h0 h1, de_is]
theorem ev_subtract (hx : RB k x) (hy : RB k y) (hu : RB l u) (hv : RB l v) (hk : k + l ≤ 9000 := by decide) (h0 : 0 < k := by decide) (h1 : 0 < l := by decide) : F_subtract [.int f, de x y, de u v] h = .ok (de (x - u) (y - v)) h := by
  simp [F_subtract, M_subtract, defM, tupM_eq, ev_minus hx hu hk h0 h1, ev_minus hy hv hk h0 h1, de_is]
/-- the product -/
def mul1 (f : Int) (x y u v : Rat) : Rat := x * u + f * (y * v)
def mul2 (x y u v : Rat) : Rat := x * v + y * u
theorem RB.mul1 (hf : Bit m f) (hx : RB k x) (hy : RB k y) (hu : RB l u) (hv : RB l v) (h2 : 0 < m := by decide) : RB (2 * (k + l) + m + 1) (mul1 f x y u v) :=
  ((hx.mul hu).add ((RB.int hf h2).mul (hy.mul hv))).mono (by omega)
theorem RB.mul2 (hx : RB k x) (hy : RB k y) (hu : RB l u) (hv : RB l v) : RB (2 * (k + l) + 1) (mul2 x y u v) :=
  ((hx.mul hv).add (hy.mul hu)).mono (by omega)
theorem ev_multiply (hf : Bit m f) (hx : RB k x) (hy : RB k y) (hu : RB l u) (hv : RB l v) (hk : 2 * (k + l) + m ≤ 9000 := by decide) (h0 : 0 < k := by decide) (h1 : 0 < l := by decide) (h2 : 0 < m := by decide) : F_multiply [.int f, de x y, de u v] h = .ok (de (mul1 f x y u v) (mul2 x y u v)) h := by
  have e1 := fun h => ev_times (h := h) hx hu (by omega) h0 h1
  have e2 := fun h => ev_times (h := h) hy hv (by omega) h0 h1
  have e3 := fun h => ev_times (h := h) (RB.int hf h2) (hy.mul hv) (by omega) h2 (by omega)
  have e4 := fun h => ev_plus (h := h) (hx.mul hu) ((RB.int hf h2).mul (hy.mul hv)) (by omega) (by omega) (by omega)
  have e5 := fun h => ev_times (h := h) hx hv (by omega) h0 h1
  have e6 := fun h => ev_times (h := h) hy hu (by omega) h0 h1
  have e7 := fun h => ev_plus (h := h) (hx.mul hv) (hy.mul hu) (by omega) (by omega) (by omega)
  simp [F_multiply, M_multiply, defM, tupM_eq, e1, ev_whole, e2, e3, e4, e5, e6, e7, mul1, mul2, de_is]
theorem ev_law_multiply (hf : Bit m f) (hx : RB k x) (hy : RB k y) (hu : RB l u) (hv : RB l v) (hk : 2 * (k + l) + m ≤ 9000 := by decide) (h0 : 0 < k := by decide) (h1 : 0 < l := by decide) (h2 : 0 < m := by decide) : F__law_multiply [.int f, de x y, de u v] h = .ok (de (mul1 f x y u v) (mul2 x y u v)) h := by
  have e1 := fun h => ev_law_times (h := h) hx hu (by omega) h0 h1
  have e2 := fun h => ev_law_times (h := h) hy hv (by omega) h0 h1
  have e3 := fun h => ev_law_times (h := h) (RB.int hf h2) (hy.mul hv) (by omega) h2 (by omega)
  have e4 := fun h => ev_law_plus (h := h) (hx.mul hu) ((RB.int hf h2).mul (hy.mul hv)) (by omega) (by omega) (by omega)
  have e5 := fun h => ev_law_times (h := h) hx hv (by omega) h0 h1
  have e6 := fun h => ev_law_times (h := h) hy hu (by omega) h0 h1
  have e7 := fun h => ev_law_plus (h := h) (hx.mul hv) (hy.mul hu) (by omega) (by omega) (by omega)
  simp [F__law_multiply, M__law_multiply, defM, tupM_eq, e1, dr_int, e2, e3, e4, e5, e6, e7, mul1, mul2, de_is]
def nrm (f : Int) (x y : Rat) : Rat := x * x - f * (y * y)
theorem ev_norm (hf : Bit m f) (hx : RB k x) (hy : RB k y) (hk : 4 * k + m ≤ 9000 := by decide) (h0 : 0 < k := by decide) (h2 : 0 < m := by decide) : F_norm [.int f, de x y] h = .ok (dr (nrm f x y)) h := by
  have e1 := fun h => ev_times (h := h) hx hx (by omega) h0 h0
  have e2 := fun h => ev_times (h := h) hy hy (by omega) h0 h0
  have e3 := fun h => ev_times (h := h) (RB.int hf h2) (hy.mul hy) (by omega) h2 (by omega)
  have e4 := fun h => ev_minus (h := h) (hx.mul hx) ((RB.int hf h2).mul (hy.mul hy)) (by omega) (by omega) (by omega)
  simp [F_norm, M_norm, defM, e1, ev_whole, e2, e3, e4, nrm]
theorem RB.nrm (hf : Bit m f) (hx : RB k x) (hy : RB k y) (h2 : 0 < m := by decide) : RB (4 * k + m + 1) (nrm f x y) :=
  ((hx.mul hx).sub ((RB.int hf h2).mul (hy.mul hy))).mono (by omega)
theorem eq_de : F__law_equal_r (k + 1 + 1 + 1) [de x y, de x y] h = .ok (.bl true) h := by
  refine eq_tupZ rfl (by simp) fun p hp => ?_
  simp at hp
  rcases hp with rfl | rfl <;> exact eq_dr
end
end Zc
/-! C5L: equality of rationals and elements; quotients. -/
namespace Zc
open PySem L2 Z Q
section
variable {h : IH} {f : Int} {x y u v : Rat} {k l m : Nat}
theorem dec_rat : (decide (x.num = y.num) && decide ((x.den : Int) = (y.den : Int))) = decide (x = y) := by
  have : (x.num = y.num ∧ (x.den : Int) = (y.den : Int)) ↔ x = y := ⟨fun ⟨a, b⟩ => Rat.ext a (by omega), fun e => by subst e; exact ⟨rfl, rfl⟩⟩
  by_cases c : x = y
  · have := this.mpr c
    simp [c]
  · have n := fun z => c (this.mp z)
    simp only [c, decide_false]
    by_cases a : x.num = y.num
    · have b : ¬ (x.den : Int) = (y.den : Int) := fun b => n ⟨a, b⟩
      rw [decide_eq_false b, Bool.and_false]
    · rw [decide_eq_false a, Bool.false_and]
theorem eqB_dr : eqB h (dr x) (dr y) = some (decide (x = y)) := by
  show (if SeqAt.shaped (.tuple [.int x.num, .int x.den]) = true ∧ SeqAt.shaped (.tuple [.int y.num, .int y.den]) = true then some (PyData.eqv (.tuple [.int x.num, .int x.den]) (.tuple [.int y.num, .int y.den])) else none) = _
  rw [if_pos ⟨rfl, rfl⟩, ← dec_rat]
  simp [PyData.eqv, PyData.eqvAll]
  rfl
theorem eqB_de : eqB h (de x y) (de u v) = some (decide (x = u) && decide (y = v)) := by
  show (if SeqAt.shaped (.tuple [.tuple [.int x.num, .int x.den], .tuple [.int y.num, .int y.den]]) = true ∧ SeqAt.shaped (.tuple [.tuple [.int u.num, .int u.den], .tuple [.int v.num, .int v.den]]) = true then some (PyData.eqv (.tuple [.tuple [.int x.num, .int x.den], .tuple [.int y.num, .int y.den]]) (.tuple [.tuple [.int u.num, .int u.den], .tuple [.int v.num, .int v.den]])) else none) = _
  rw [if_pos ⟨rfl, rfl⟩, ← dec_rat, ← dec_rat]
  simp [PyData.eqv, PyData.eqvAll]
  rfl
@[simp] theorem eqM_dr : eqM (dr x) (dr y) h = .ok (.bl (decide (x = y))) h := by unfold eqM; rw [eqB_dr]
@[simp] theorem neM_dr : neM (dr x) (dr y) h = .ok (.bl (!decide (x = y))) h := by unfold neM; rw [eqB_dr]
@[simp] theorem eqM_de : eqM (de x y) (de u v) h = .ok (.bl (decide (x = u) && decide (y = v))) h := by unfold eqM; rw [eqB_de]
@[simp] theorem gtup_de {gs : MGs} {env : Ev} : gtupM 2 gs (de x y) env = gs [dr x, dr y] env := rfl
@[simp] theorem gtup_dr {gs : MGs} {env : Ev} : gtupM 2 gs (dr x) env = gs [.int x.num, .int (x.den : Int)] env := rfl
/-! ### the norm is 0 at 0 alone -/
theorem sq_of_rat {r : Rat} (e : r * r = (f : Rat)) : IsSq f := by
  have e1 : Rat.divInt (r.num * r.num) (r.den * r.den) = Rat.divInt f 1 := by
    rw [← mul_is, e]; exact (Rat.num_divInt_den (f : Rat)).symm
  have e2 := (Rat.divInt_eq_divInt_iff (Int.mul_ne_zero den_ne den_ne) (by decide)).mp e1
  rw [Int.mul_one] at e2
  have cop : Int.gcd (r.den : Int) r.num = 1 := by
    rw [Int.gcd_comm]
    exact r.reduced
  have d1 : (r.den : Int) ∣ r.num * r.num := ⟨f * r.den, by rw [e2]; ac_rfl⟩
  have d2 := dvd_cop d1 cop
  have d3 : (r.den : Int) ∣ 1 := by
    have : (r.den : Int) ∣ (Int.gcd (r.den : Int) r.num : Int) := Int.dvd_coe_gcd (Int.dvd_refl _) d2
    rw [cop] at this
    exact this
  have d4 : (r.den : Int) = 1 := by
    have := Int.eq_one_of_dvd_one (Int.natCast_nonneg _) d3
    exact this
  rw [d4] at e2
  exact ⟨r.num, by rw [e2]; simp⟩
theorem nrm_ne (hf : f = 0 ∨ ¬ IsSq f) (hv : f = 0 → v = 0) (h0 : ¬ (u = 0 ∧ v = 0)) : nrm f u v ≠ 0 := fun z => by
  unfold nrm at z
  rcases hf with hf | hf
  · have := hv hf
    subst this
    have : u * u = 0 := by grind
    have : u = 0 := by grind
    exact h0 ⟨this, rfl⟩
  · by_cases c : v = 0
    · subst c
      have : u * u = 0 := by grind
      have : u = 0 := by grind
      exact h0 ⟨this, rfl⟩
    · exact hf (sq_of_rat (r := u / v) (by grind))
/-- the quotient -/
def dv1 (f : Int) (x y u v : Rat) : Rat := mul1 f x y u (-v) / nrm f u v
def dv2 (f : Int) (x y u v : Rat) : Rat := mul2 x y u (-v) / nrm f u v
theorem ev_divide (hn : nrm f u v ≠ 0) (h0 : ¬ (u = 0 ∧ v = 0)) (hf : Bit m f) (hx : RB k x) (hy : RB k y) (hu : RB k u) (hv : RB k v) (hk : 8 * k + 2 * m + 2 ≤ 9000 := by decide) (h0' : 0 < k := by decide) (h2 : 0 < m := by decide) : F_divide [.int f, de x y, de u v] h = .ok (de (dv1 f x y u v) (dv2 f x y u v)) h := by
  have e1 := fun h => ev_norm (h := h) hf hu hv (by omega) h0' h2
  have e2 := fun h => ev_multiply (h := h) hf hx hy hu hv.neg (by omega) h0' h0' h2
  have b1 := RB.mul1 hf hx hy hu hv.neg h2
  have b2 := RB.mul2 hx hy hu hv.neg
  have b3 := RB.nrm hf hu hv h2
  have e3 := fun h => ev_over (h := h) hn b1 b3 (by omega) (by omega) (by omega)
  have e4 := fun h => ev_over (h := h) hn b2 b3 (by omega) (by omega) (by omega)
  have z0 : D.tup [D.tup [.int 0, .int 1], D.tup [.int 0, .int 1]] = de 0 0 := rfl
  have c : (decide (u = 0) && decide (v = 0)) = false := by
    rw [← Bool.decide_and]
    exact decide_eq_false h0
  simp [F_divide, M_divide, defM, tupM_eq, z0, c, e1, dr_neg, de_is, e2, e3, e4, dv1, dv2]
theorem ev_divide0 : F_divide [.int f, de x y, de 0 0] h = .exc ⟨"BadValue", [("name", .str "b")]⟩ h := by
  have z0 : D.tup [D.tup [.int 0, .int 1], D.tup [.int 0, .int 1]] = de 0 0 := rfl
  simp [F_divide, M_divide, defM, tupM_eq, z0]
theorem RB.dv1 (hn : Zc.nrm f u v ≠ 0) (hf : Bit m f) (hx : RB k x) (hy : RB k y) (hu : RB k u) (hv : RB k v) (h2 : 0 < m := by decide) : RB (8 * k + 2 * m + 2) (Zc.dv1 f x y u v) :=
  ((RB.mul1 hf hx hy hu hv.neg h2).div (RB.nrm hf hu hv h2) hn).mono (by omega)
theorem RB.dv2 (hn : Zc.nrm f u v ≠ 0) (hf : Bit m f) (hx : RB k x) (hy : RB k y) (hu : RB k u) (hv : RB k v) (h2 : 0 < m := by decide) : RB (8 * k + 2 * m + 2) (Zc.dv2 f x y u v) :=
  ((RB.mul2 hx hy hu hv.neg).div (RB.nrm hf hu hv h2) hn).mono (by omega)
theorem dv_mul1 (hn : nrm f u v ≠ 0) : mul1 f (dv1 f x y u v) (dv2 f x y u v) u v = x := by
  unfold mul1 dv1 dv2 mul1 mul2 nrm at *
  grind
theorem dv_mul2 (hn : nrm f u v ≠ 0) : mul2 (dv1 f x y u v) (dv2 f x y u v) u v = y := by
  unfold mul2 dv1 dv2 mul1 mul2 nrm at *
  grind
theorem ev_law_is_rational (hx : RB k x) (hk : k ≤ 19000 := by decide) : F__law_is_rational [dr x] h = .ok (.bl true) h := by
  have e := ev_law_gcd (a := x.num) (b := (x.den : Int)) (h := h) hx.d hk
  have g : Int.gcd x.num (x.den : Int) = 1 := x.reduced
  rw [g] at e
  have p := x.den_pos
  simp [F__law_is_rational, M__law_is_rational, defM, ev_law_is_integer, e, p]
end
end Zc
/-! C6L: signs. -/
namespace Zc
open PySem L2 Z Q
/-- the sign of a whole number -/
def sg (n : Int) : Int := (if 0 < n then 1 else 0) - (if n < 0 then 1 else 0)
theorem sg_pos {n : Int} (h : 0 < n) : sg n = 1 := by unfold sg; rw [if_pos h, if_neg (by omega)]; rfl
theorem sg_neg {n : Int} (h : n < 0) : sg n = -1 := by unfold sg; rw [if_neg (by omega), if_pos h]; rfl
theorem sg_0 : sg 0 = 0 := by rfl
/-- the sign of x + y * the root of f, as the program works it out -/
def pS (f : Int) (x y : Rat) : Int := if sg y.num = 0 ∨ sg x.num = sg y.num then sg x.num else if sg x.num = 0 then sg y.num else sg x.num * sg (nrm f x y).num
/-- .. and as the law does -/
def lS (f : Int) (x y : Rat) : Int :=
  if 0 ≤ x.num * y.den ∧ 0 ≤ y.num * x.den * f then (if 0 < x.num * y.den ∨ 0 < y.num * x.den * f then 1 else 0)
  else if x.num * y.den ≤ 0 ∧ y.num * x.den * f ≤ 0 then -1
  else if y.num * x.den * (y.num * x.den) * f < x.num * y.den * (x.num * y.den) then sg (x.num * y.den) else sg (y.num * x.den)
section
variable {h : IH} {f n : Int} {x y u v : Rat} {k l m : Nat}
theorem ev_sign : F_sign [.int n] h = .ok (.int (sg n)) h := by
  simp [F_sign, M_sign, defM, sg]
theorem ev_law_sign : F__law_sign [.int n] h = .ok (.int (sg n)) h := by
  simp [F__law_sign, M__law_sign, defM, sg]
theorem sg_bit : Bit 4 (sg n) := by
  unfold sg
  unfold Bit
  split <;> split <;> decide
theorem ev_sign_of (hf : Bit m f) (hx : RB k x) (hy : RB k y) (hk : 4 * k + m ≤ 9000 := by decide) (h0 : 0 < k := by decide) (h2 : 0 < m := by decide) : F_sign_of [.int f, de x y] h = .ok (.int (pS f x y)) h := by
  have e1 := fun h => ev_norm (h := h) hf hx hy hk h0 h2
  have e2 := fun h => mulM_int (h := h) (small_of (sg_bit (n := x.num)) (sg_bit (n := (nrm f x y).num)))
  unfold pS
  by_cases c1 : sg y.num = 0
  · simp [F_sign_of, M_sign_of, defM, ev_sign, c1]
  · by_cases c2 : sg x.num = sg y.num
    · simp [F_sign_of, M_sign_of, defM, ev_sign, c1, c2]
    · by_cases c3 : sg x.num = 0
      · have c2' : ¬ 0 = sg y.num := fun z => c1 z.symm
        simp [F_sign_of, M_sign_of, defM, ev_sign, c1, c3, c2']
      · simp [F_sign_of, M_sign_of, defM, ev_sign, c1, c2, c3, e1, e2]
theorem ev_law_sign_of (hf : Bit m f) (hx : RB k x) (hy : RB k y) (hk : 4 * k + m ≤ 9000 := by decide) (h0 : 0 < k := by decide) (h2 : 0 < m := by decide) : F__law_sign_of [.int f, de x y] h = .ok (.int (lS f x y)) h := by
  have bl := hx.n.mul hy.d
  have br := hy.n.mul hx.d
  have e1 := fun h => mulM_int (h := h) (small_of hx.n hy.d (by omega) h0 h0)
  have e2 := fun h => mulM_int (h := h) (small_of hy.n hx.d (by omega) h0 h0)
  have e3 := fun h => mulM_int (h := h) (small_of br hf (by omega) (by omega) h2)
  have e4 := fun h => mulM_int (h := h) (small_of bl bl (by omega) (by omega) (by omega))
  have e5 := fun h => mulM_int (h := h) (small_of br br (by omega) (by omega) (by omega))
  have e6 := fun h => mulM_int (h := h) (small_of (br.mul br) hf (by omega) (by omega) h2)
  unfold lS
  by_cases c1 : 0 ≤ x.num * y.den
  · by_cases c2 : 0 ≤ y.num * x.den * f
    · by_cases c3 : 0 < x.num * y.den
      · simp [F__law_sign_of, M__law_sign_of, defM, e1, e2, e3, c1, c2, c3]
      · by_cases c4 : 0 < y.num * x.den * f
        · simp [F__law_sign_of, M__law_sign_of, defM, e1, e2, e3, c1, c2, c3, c4]
        · simp [F__law_sign_of, M__law_sign_of, defM, e1, e2, e3, c1, c2, c3, c4]
    · by_cases c3 : x.num * y.den ≤ 0
      · by_cases c4 : y.num * x.den * f ≤ 0
        · simp [F__law_sign_of, M__law_sign_of, defM, e1, e2, e3, c1, c2, c3, c4]
        · omega
      · by_cases c5 : y.num * x.den * (y.num * x.den) * f < x.num * y.den * (x.num * y.den)
        · simp [F__law_sign_of, M__law_sign_of, defM, e1, e2, e3, e4, e5, e6, c1, c2, c3, c5, ev_law_sign]
        · simp [F__law_sign_of, M__law_sign_of, defM, e1, e2, e3, e4, e5, e6, c1, c2, c3, c5, ev_law_sign]
  · have c3 : x.num * y.den ≤ 0 := by omega
    by_cases c4 : y.num * x.den * f ≤ 0
    · simp [F__law_sign_of, M__law_sign_of, defM, e1, e2, e3, c1, c3, c4]
    · by_cases c5 : y.num * x.den * (y.num * x.den) * f < x.num * y.den * (x.num * y.den)
      · simp [F__law_sign_of, M__law_sign_of, defM, e1, e2, e3, e4, e5, e6, c1, c3, c4, c5, ev_law_sign]
      · simp [F__law_sign_of, M__law_sign_of, defM, e1, e2, e3, e4, e5, e6, c1, c3, c4, c5, ev_law_sign]
theorem sg_mul {a b : Int} (hb : 0 < b) : sg (a * b) = sg a := by
  rcases Int.lt_trichotomy a 0 with c | c | c
  · rw [sg_neg c, sg_neg (Int.mul_neg_of_neg_of_pos c hb)]
  · subst c; simp
  · rw [sg_pos c, sg_pos (Int.mul_pos c hb)]
theorem sg_n {a : Int} : sg (-a) = -sg a := by unfold sg; split <;> split <;> split <;> split <;> omega
theorem nrm_n : nrm f (-x) (-y) = nrm f x y := by unfold nrm; grind
theorem pS_neg : pS f (-x) (-y) = -pS f x y := by
  unfold pS
  rw [nrm_n, Rat.neg_num, Rat.neg_num, sg_n, sg_n]
  have h1 : (-sg y.num = 0) ↔ sg y.num = 0 := by omega
  have h2 : (-sg x.num = -sg y.num) ↔ sg x.num = sg y.num := by omega
  have h3 : (-sg x.num = 0) ↔ sg x.num = 0 := by omega
  simp only [h1, h2, h3]
  split
  · rfl
  · split
    · rfl
    · rw [Int.neg_mul]
/-- the norm's sign, in whole numbers -/
theorem nrm_num : ∃ D : Int, 0 < D ∧ (nrm f x y).num * D = (x.num * y.den * (x.num * y.den) - y.num * x.den * (y.num * x.den) * f) * ((nrm f x y).den : Int) := by
  refine ⟨(x.den * y.den : Int) * (x.den * y.den), Int.mul_pos (Int.mul_pos den_pos' den_pos') (Int.mul_pos den_pos' den_pos'), ?_⟩
  have e : nrm f x y = Rat.divInt (x.num * y.den * (x.num * y.den) - y.num * x.den * (y.num * x.den) * f) ((x.den * y.den : Int) * (x.den * y.den)) := by
    have a1 : x * x = Rat.divInt (x.num * x.num) (x.den * x.den) := mul_is
    have a2 : y * y = Rat.divInt (y.num * y.num) (y.den * y.den) := mul_is
    have a3 : (f : Rat) = Rat.divInt f 1 := (Rat.num_divInt_den (f : Rat)).symm
    unfold nrm
    rw [a1, a2, a3, Rat.divInt_mul_divInt, Rat.divInt_sub_divInt _ _ (Int.mul_ne_zero den_ne den_ne) (Int.mul_ne_zero (by decide) (Int.mul_ne_zero den_ne den_ne))]
    congr 1
    · grind
    · grind
  have q := Rat.num_divInt_den (nrm f x y)
  conv at q => rhs; rw [e]
  exact (Rat.divInt_eq_divInt_iff den_ne (Int.mul_ne_zero (Int.mul_ne_zero den_ne den_ne) (Int.mul_ne_zero den_ne den_ne))).mp q
theorem lS_pS (f0 : 0 ≤ f) (hf : f = 0 ∨ ¬ IsSq f) (hv : f = 0 → y = 0) : lS f x y = pS f x y := by
  have dx := den_pos' (r := x)
  have dy := den_pos' (r := y)
  have sl : sg (x.num * y.den) = sg x.num := sg_mul dy
  have sr : sg (y.num * x.den) = sg y.num := sg_mul dx
  have srf : 0 < f → sg (y.num * x.den * f) = sg y.num := fun c => by rw [sg_mul c, sr]
  have sN : sg (nrm f x y).num = sg (x.num * y.den * (x.num * y.den) - y.num * x.den * (y.num * x.den) * f) := by
    obtain ⟨D, hD, e⟩ := nrm_num (f := f) (x := x) (y := y)
    rw [← sg_mul (a := (nrm f x y).num) hD, e, sg_mul den_pos']
  have yz : y = 0 ↔ y.num = 0 := Rat.num_eq_zero.symm
  have hN : y ≠ 0 → (nrm f x y).num ≠ 0 := fun c z => nrm_ne hf hv (fun q => c q.2) (Rat.num_eq_zero.mp z)
  unfold pS lS
  rw [sN]
  rw [← sl, ← sr]
  have hN' : y.num * x.den ≠ 0 → sg (x.num * y.den * (x.num * y.den) - y.num * x.den * (y.num * x.den) * f) ≠ 0 := fun c => by
    have c1 : y ≠ 0 := fun z => c (by rw [yz.mp z, Int.zero_mul])
    have c2 := hN c1
    rw [← sN]
    rcases Int.lt_trichotomy (nrm f x y).num 0 with q | q | q
    · rw [sg_neg q]; decide
    · exact absurd q c2
    · rw [sg_pos q]; decide
  have hz : f = 0 → y.num * x.den = 0 := fun c => by rw [yz.mp (hv c), Int.zero_mul]
  generalize x.num * (y.den : Int) = l at *
  generalize y.num * (x.den : Int) = r at *
  have srf' : 0 < f → sg (r * f) = sg r := fun c => sg_mul c
  have rf0 : f = 0 → r * f = 0 := fun c => by rw [c, Int.mul_zero]
  generalize r * f = rf at *
  have hM := hN'
  generalize hA : l * l - r * r * f = A at *
  have hA2 : r * r * f < l * l ↔ 0 < A := by omega
  simp only [hA2]
  have P : ∀ n : Int, (n < 0 ∧ sg n = -1) ∨ (n = 0 ∧ sg n = 0) ∨ (0 < n ∧ sg n = 1) := fun n => by
    rcases Int.lt_trichotomy n 0 with q | q | q
    · exact .inl ⟨q, sg_neg q⟩
    · exact .inr (.inl ⟨q, by rw [q]; rfl⟩)
    · exact .inr (.inr ⟨q, sg_pos q⟩)
  have Pl := P l
  have Pr := P r
  have PA := P A
  have Pf := P rf
  clear hN hN' sN sl sr srf yz P
  have key : (0 < f → sg rf = sg r) ∧ (f = 0 → r = 0 ∧ rf = 0) := ⟨srf', fun c => ⟨hz c, rf0 c⟩⟩
  generalize sg l = a at *
  generalize sg r = b at *
  generalize sg A = d at *
  generalize sg rf = e at *
  have ff : 0 < f ∨ f = 0 := by omega
  clear hA hA2 rf0 srf' hz
  have key2 : (e = b) ∨ (r = 0 ∧ rf = 0) := by
    rcases ff with q | q
    · exact .inl (key.1 q)
    · exact .inr (key.2 q)
  clear key ff
  rcases Pl with ⟨p1, rfl⟩ | ⟨p1, rfl⟩ | ⟨p1, rfl⟩ <;> rcases Pr with ⟨p2, rfl⟩ | ⟨p2, rfl⟩ | ⟨p2, rfl⟩ <;> rcases PA with ⟨p3, rfl⟩ | ⟨p3, rfl⟩ | ⟨p3, rfl⟩ <;> rcases Pf with ⟨p4, rfl⟩ | ⟨p4, rfl⟩ | ⟨p4, rfl⟩ <;>
    first
    | (exfalso; omega)
    | (exfalso; exact hM (by omega) rfl)
    | (repeat' split <;> omega)
end
end Zc
/-! C7L: checks of shapes. -/
namespace Zc
open PySem L2 Z Q
section
variable {h : IH} {f n : Int} {x y : Rat} {a b : Bool} {k : Nat}
theorem eqM_bl : eqM (.bl a) (.bl b) h = .ok (.bl (a == b)) h := by cases a <;> cases b <;> rfl
theorem ev_is : F__law_is [.bl a, .bl b] h = .ok (.bl (a == b)) h := by
  simp [F__law_is, M__law_is, defM, eqM_bl]
theorem isr_dr : F_is_rational [dr x] h = .ok (.bl true) h := by
  have e := ev_is_rational (n := x.num) (d := (x.den : Int)) (h := h)
  have g : Int.gcd x.num (x.den : Int) = 1 := x.reduced
  have p := den_pos' (r := x)
  rw [g, decide_eq_true p] at e
  exact e
theorem isi_false {d : D} {s : String} (e : tyN h d = some s) (k1 : kitB s "int" = some false) : F_is_integer [d] h = .ok (.bl false) h := by
  cases d with
  | xv => cases e
  | _ => simp [F_is_integer, M_is_integer, defM, e, k1]
theorem isr_false {d : D} {s : String} (e : tyN h d = some s) (k1 : kitB s "tuple" = some false) : F_is_rational [d] h = .ok (.bl false) h := by
  cases d with
  | xv => cases e
  | _ => simp [F_is_rational, M_is_rational, defM, e, k1]
theorem num_false {d : D} {s : String} (e : tyN h d = some s) (k1 : kitB s "tuple" = some false) : F_is_number [d] h = .ok (.bl false) h := by
  cases d with
  | xv => cases e
  | _ => simp [F_is_number, M_is_number, defM, e, k1]
end
/-! ### all over a tuple of three -/
theorem all3 {h : IH} {f : MF} {c b a : D} {x y z : Bool} (ea : f [c] h = .ok (.bl x) h) (eb : f [b] h = .ok (.bl y) h) (ec : f [a] h = .ok (.bl z) h) (hc : okV h c = .ok c h) (hb : okV h b = .ok b h) (ha : okV h a = .ok a h) {e0 e1 e2 e3 e4 : Option D} :
    lcS (gnameM 5) yesM (callM f (aconsM (varM 5) anilM)) [e0, e1, e2, e3, e4, none] [c, b, a] h = .ok [.bl x, .bl y, .bl z] h := by
  simp [lcS, gnameM, yesM, hc, hb, ha, ea, eb, ec]
/-- what a root must be -/
noncomputable def okR (c b a : Int) : Bool := decide (0 < a) && (decide ((((a.natAbs.gcd b.natAbs).gcd c.natAbs : Nat) : Int) = 1) && (decide (4 * a * c < b * b) && !sq (b * b - 4 * a * c)))
theorem lc_root {h : IH} {s : Str} {c b a w : D} {x y z : Bool} (hc : okV h c = .ok c h) (hb : okV h b = .ok b h) (ha : okV h a = .ok a h) (ec : F_is_integer [c] h = .ok (.bl x) h) (eb : F_is_integer [b] h = .ok (.bl y) h) (ea : F_is_integer [a] h = .ok (.bl z) h) :
    lcM (seqI (binM ixM (varM 0) (constM (.int 1)))) [5] (gnameM 5) yesM (callM F_is_integer (aconsM (varM 5) anilM)) [some (.tup [.str s, .tup [c, b, a], w]), none, none, none, none, none] h = .ok (.ref h.length) (h ++ [.lst [.bl x, .bl y, .bl z]]) := by
  have e1 : seqI (binM ixM (varM 0) (constM (.int 1))) [some (.tup [.str s, .tup [c, b, a], w]), none, none, none, none, none] h = .ok (.snap [c, b, a]) h := by
    simp
  unfold lcM
  rw [e1]
  have hm : [c, b, a].length ≤ MOST := by unfold MOST; simp
  simp only [R.bindG_ok, R.bind, hm, if_true, wipeE, List.set]
  rw [all3 ec eb ea hc hb ha]
  simp only [R.bindG_ok, newL_eq]
theorem all_3 {h : IH} {x y z : Bool} : allF [.ref h.length] (h ++ [.lst [.bl x, .bl y, .bl z]]) = .ok (.bl (x && (y && z))) (h ++ [.lst [.bl x, .bl y, .bl z]]) := by
  have e : lisOf (h ++ [IO.lst [D.bl x, D.bl y, D.bl z]]) (.ref h.length) = some [.bl x, .bl y, .bl z] := by simp [lisOf]
  unfold allF
  simp [e, bls]
theorem inM_01 {h : IH} {w : Int} : inM true (.int w) (.tup [.int 0, .int 1]) h = .ok (.bl (!(decide (w = 0) || decide (w = 1)))) h := by
  have : inT (.int w) (.tup [.int 0, .int 1]) = some (decide (w = 0) || decide (w = 1)) := by
    simp [inT, vOf, vsOf, inV, eqV]
    by_cases c : w = 0
    · subst c; rfl
    · by_cases c2 : w = 1
      · subst c2; rfl
      · have h1 : ¬ 0 = w := fun z => c z.symm
        have h2 : ¬ 1 = w := fun z => c2 z.symm
        simp [c, c2, h1, h2]
  unfold inM
  rw [this]
  rfl
theorem ev_is_root {h : IH} {c b a w : Int} {k : Nat} (bc : Bit k c) (bb : Bit k b) (ba : Bit k a) (hk : 2 * k + 5 ≤ 8000) (hk0 : 0 < k) (hw : w = 0 ∨ w = 1) : F_is_root [.tup [.str "root", .tup [.int c, .int b, .int a], .int w]] h = .ok (.bl (okR c b a)) h := by
  have e1 := lc_root (h := h) (s := "root") (c := .int c) (b := .int b) (a := .int a) (w := .int w) rfl rfl rfl ev_is_integer ev_is_integer ev_is_integer
  have e2 := all_3 (h := h) (x := true) (y := true) (z := true)
  have s1 := fun h => mulM_int (h := h) (small_of bb bb (by omega) hk0 hk0)
  have s2 := fun h => mulM_int (h := h) (small_of (a := 4) (Bit.pos (x := 4) (by decide) (by decide)) ba (by omega) (by decide) hk0)
  have s3 := fun h => mulM_int (h := h) (small_of ((Bit.pos (k := 4) (x := 4) (by decide) (by decide)).mul ba) bc (by omega) (by omega) hk0)
  have hD : Bit 8000 (b * b - 4 * a * c) := (((bb.mul bb).mono (show k + k ≤ 4 + k + k by omega)).sub ((((Bit.pos (k := 4) (x := 4) (by decide) (by decide)).mul ba).mul bc))).mono (by omega)
  have hw' : (decide (w = 0) || decide (w = 1)) = true := by
    rcases hw with rfl | rfl <;> rfl
  unfold okR
  by_cases c1 : 0 < a
  · by_cases c2 : (((a.natAbs.gcd b.natAbs).gcd c.natAbs : Nat) : Int) = 1
    · by_cases c3 : 4 * a * c < b * b
      · have e3 := fun h => ev_is_square (h := h) (show 0 ≤ b * b - 4 * a * c by omega) hD
        simp only [F_is_root, M_is_root, defM]
        simp [e1, e2, ev_is_integer, tupM_eq, inM_01, hw', s1, s2, s3, c1, c2, c3, e3]
        exact trunc_app rfl
      · simp [F_is_root, M_is_root, defM, e1, e2, ev_is_integer, tupM_eq, inM_01, hw', s1, s2, s3, c1, c2, c3]
        exact trunc_app rfl
    · simp [F_is_root, M_is_root, defM, e1, e2, ev_is_integer, tupM_eq, inM_01, hw', s1, s2, s3, c1, c2]
      exact trunc_app rfl
  · simp [F_is_root, M_is_root, defM, e1, e2, ev_is_integer, tupM_eq, inM_01, hw', s1, s2, s3, c1]
    exact trunc_app rfl
end Zc
/-! C8L: what is no number. -/
namespace Zc
open PySem L2 Z Q
section
variable {h : IH} {s : Str} {d w a b c : D} {ds : List D} {r : Bool}
theorem str_eq {x y : Str} (hx : SeqAt.shaped (.str x) = true := by decide +kernel) (hy : SeqAt.shaped (.str y) = true := by decide +kernel) : eqM (.str x) (.str y) h = .ok (.bl (x == y)) h := eqM_str hx hy
theorem rr1 : eqM (.str "root") (.str "rational") h = .ok (.bl false) h := by rw [str_eq]; rfl
theorem rr2 : eqM (.str "root") (.str "root") h = .ok (.bl true) h := by rw [str_eq]; rfl
theorem rr3 : eqM (.str "rational") (.str "rational") h = .ok (.bl true) h := by rw [str_eq]; rfl
theorem num_root2 (e : F_is_root [.tup [.str "root", d]] h = .ok (.bl r) h) : F_is_number [.tup [.str "root", d]] h = .ok (.bl r) h := by
  simp [F_is_number, M_is_number, defM, rr1, rr2, e]
theorem num_root3 (e : F_is_root [.tup [.str "root", d, w]] h = .ok (.bl r) h) : F_is_number [.tup [.str "root", d, w]] h = .ok (.bl r) h := by
  simp [F_is_number, M_is_number, defM, rr1, rr2, e]
theorem num_root4 (e : F_is_root [.tup [.str "root", d, w, a]] h = .ok (.bl r) h) : F_is_number [.tup [.str "root", d, w, a]] h = .ok (.bl r) h := by
  simp [F_is_number, M_is_number, defM, rr1, rr2, e]
theorem num_rat (e : F_is_rational [d] h = .ok (.bl r) h) : F_is_number [.tup [.str "rational", d]] h = .ok (.bl r) h := by
  simp [F_is_number, M_is_number, defM, rr3, e]
theorem num_rat3 : F_is_number [.tup [.str "rational", d, w]] h = .ok (.bl false) h := by
  simp [F_is_number, M_is_number, defM, rr3]
theorem num_1 : F_is_number [.tup [d]] h = .ok (.bl false) h := by
  simp [F_is_number, M_is_number, defM]
theorem num_0 : F_is_number [.tup []] h = .ok (.bl false) h := by
  simp [F_is_number, M_is_number, defM]
theorem num_int {i : Int} : F_is_number [.tup [.int i, d]] h = .ok (.bl false) h := by
  simp [F_is_number, M_is_number, defM]
theorem num_oth2 (e1 : eqM (.str s) (.str "rational") h = .ok (.bl false) h) (e2 : eqM (.str s) (.str "root") h = .ok (.bl false) h) : F_is_number [.tup [.str s, d]] h = .ok (.bl false) h := by
  simp [F_is_number, M_is_number, defM, e1, e2]
theorem num_oth3 (e1 : eqM (.str s) (.str "rational") h = .ok (.bl false) h) (e2 : eqM (.str s) (.str "root") h = .ok (.bl false) h) : F_is_number [.tup [.str s, d, w]] h = .ok (.bl false) h := by
  simp [F_is_number, M_is_number, defM, e1, e2]
theorem root_len2 : F_is_root [.tup [d, w]] h = .ok (.bl false) h := by simp [F_is_root, M_is_root, defM]
theorem root_len4 : F_is_root [.tup [d, w, a, b]] h = .ok (.bl false) h := by simp [F_is_root, M_is_root, defM]
theorem root_nt {t : String} (e : tyN h d = some t) (k1 : kitB t "tuple" = some false) : F_is_root [.tup [.str s, d, w]] h = .ok (.bl false) h := by
  simp [F_is_root, M_is_root, defM, e, k1]
theorem root_t4 {x : D} : F_is_root [.tup [.str s, .tup [a, b, c, x], w]] h = .ok (.bl false) h := by
  simp [F_is_root, M_is_root, defM]
theorem root_ni {x y z : Bool} (hc : okV h c = .ok c h) (hb : okV h b = .ok b h) (ha : okV h a = .ok a h) (ec : F_is_integer [c] h = .ok (.bl x) h) (eb : F_is_integer [b] h = .ok (.bl y) h) (ea : F_is_integer [a] h = .ok (.bl z) h) (hn : (x && (y && z)) = false) : F_is_root [.tup [.str s, .tup [c, b, a], w]] h = .ok (.bl false) h := by
  have e1 := lc_root (s := s) (w := w) hc hb ha ec eb ea
  have e2 := all_3 (h := h) (x := x) (y := y) (z := z)
  rw [hn] at e2
  simp [F_is_root, M_is_root, defM, e1, e2]
  exact trunc_app rfl
theorem root_w {i j k : Int} (e : ∀ g, F_is_integer [w] g = .ok (.bl false) g) : F_is_root [.tup [.str s, .tup [.int i, .int j, .int k], w]] h = .ok (.bl false) h := by
  have e1 := lc_root (h := h) (s := s) (c := .int i) (b := .int j) (a := .int k) (w := w) rfl rfl rfl ev_is_integer ev_is_integer ev_is_integer
  have e2 := all_3 (h := h) (x := true) (y := true) (z := true)
  simp [F_is_root, M_is_root, defM, e1, e2, e]
  exact trunc_app rfl
theorem root_w2 {i j k v : Int} (e : (decide (v = 0) || decide (v = 1)) = false) : F_is_root [.tup [.str s, .tup [.int i, .int j, .int k], .int v]] h = .ok (.bl false) h := by
  have e1 := lc_root (h := h) (s := s) (c := .int i) (b := .int j) (a := .int k) (w := .int v) rfl rfl rfl ev_is_integer ev_is_integer ev_is_integer
  have e2 := all_3 (h := h) (x := true) (y := true) (z := true)
  simp [F_is_root, M_is_root, defM, e1, e2, ev_is_integer, tupM_eq, inM_01, e]
  exact trunc_app rfl
end
end Zc
/-! G1D: graphs as data. -/
namespace Zc
open PySem L2 Z Q
section
variable {h : IH}
theorem w_exit_exit : eqM (.str "exit") (.str "exit") h = .ok (.bl true) h := by rw [str_eq]; rfl
theorem w_exit_draw : eqM (.str "exit") (.str "draw") h = .ok (.bl false) h := by rw [str_eq]; rfl
theorem w_exit_choose : eqM (.str "exit") (.str "choose") h = .ok (.bl false) h := by rw [str_eq]; rfl
theorem w_exit_call : eqM (.str "exit") (.str "call") h = .ok (.bl false) h := by rw [str_eq]; rfl
theorem w_exit_reward : eqM (.str "exit") (.str "reward") h = .ok (.bl false) h := by rw [str_eq]; rfl
theorem w_draw_exit : eqM (.str "draw") (.str "exit") h = .ok (.bl false) h := by rw [str_eq]; rfl
theorem w_draw_draw : eqM (.str "draw") (.str "draw") h = .ok (.bl true) h := by rw [str_eq]; rfl
theorem w_draw_choose : eqM (.str "draw") (.str "choose") h = .ok (.bl false) h := by rw [str_eq]; rfl
theorem w_draw_call : eqM (.str "draw") (.str "call") h = .ok (.bl false) h := by rw [str_eq]; rfl
theorem w_draw_reward : eqM (.str "draw") (.str "reward") h = .ok (.bl false) h := by rw [str_eq]; rfl
theorem w_choose_exit : eqM (.str "choose") (.str "exit") h = .ok (.bl false) h := by rw [str_eq]; rfl
theorem w_choose_draw : eqM (.str "choose") (.str "draw") h = .ok (.bl false) h := by rw [str_eq]; rfl
theorem w_choose_choose : eqM (.str "choose") (.str "choose") h = .ok (.bl true) h := by rw [str_eq]; rfl
theorem w_choose_call : eqM (.str "choose") (.str "call") h = .ok (.bl false) h := by rw [str_eq]; rfl
theorem w_choose_reward : eqM (.str "choose") (.str "reward") h = .ok (.bl false) h := by rw [str_eq]; rfl
theorem w_call_exit : eqM (.str "call") (.str "exit") h = .ok (.bl false) h := by rw [str_eq]; rfl
theorem w_call_draw : eqM (.str "call") (.str "draw") h = .ok (.bl false) h := by rw [str_eq]; rfl
theorem w_call_choose : eqM (.str "call") (.str "choose") h = .ok (.bl false) h := by rw [str_eq]; rfl
theorem w_call_call : eqM (.str "call") (.str "call") h = .ok (.bl true) h := by rw [str_eq]; rfl
theorem w_call_reward : eqM (.str "call") (.str "reward") h = .ok (.bl false) h := by rw [str_eq]; rfl
theorem w_reward_exit : eqM (.str "reward") (.str "exit") h = .ok (.bl false) h := by rw [str_eq]; rfl
theorem w_reward_draw : eqM (.str "reward") (.str "draw") h = .ok (.bl false) h := by rw [str_eq]; rfl
theorem w_reward_choose : eqM (.str "reward") (.str "choose") h = .ok (.bl false) h := by rw [str_eq]; rfl
theorem w_reward_call : eqM (.str "reward") (.str "call") h = .ok (.bl false) h := by rw [str_eq]; rfl
theorem w_reward_reward : eqM (.str "reward") (.str "reward") h = .ok (.bl true) h := by rw [str_eq]; rfl
theorem w_reject_exit : eqM (.str "reject") (.str "exit") h = .ok (.bl false) h := by rw [str_eq]; rfl
theorem w_reject_draw : eqM (.str "reject") (.str "draw") h = .ok (.bl false) h := by rw [str_eq]; rfl
theorem w_reject_choose : eqM (.str "reject") (.str "choose") h = .ok (.bl false) h := by rw [str_eq]; rfl
theorem w_reject_call : eqM (.str "reject") (.str "call") h = .ok (.bl false) h := by rw [str_eq]; rfl
theorem w_reject_reward : eqM (.str "reject") (.str "reward") h = .ok (.bl false) h := by rw [str_eq]; rfl
theorem w_stop_exit : eqM (.str "stop") (.str "exit") h = .ok (.bl false) h := by rw [str_eq]; rfl
theorem w_stop_draw : eqM (.str "stop") (.str "draw") h = .ok (.bl false) h := by rw [str_eq]; rfl
theorem w_stop_choose : eqM (.str "stop") (.str "choose") h = .ok (.bl false) h := by rw [str_eq]; rfl
theorem w_stop_call : eqM (.str "stop") (.str "call") h = .ok (.bl false) h := by rw [str_eq]; rfl
theorem w_stop_reward : eqM (.str "stop") (.str "reward") h = .ok (.bl false) h := by rw [str_eq]; rfl
theorem l_exit : List.lookup ("exit" : Str) ([("exit", (.int 2)), ("draw", (.int 2)), ("choose", (.int 2)), ("call", (.int 3)), ("reward", (.int 3)), ("reject", (.int 1)), ("stop", (.int 1))] : List (Str × D)) = some (.int 2) := by rfl
theorem l_draw : List.lookup ("draw" : Str) ([("exit", (.int 2)), ("draw", (.int 2)), ("choose", (.int 2)), ("call", (.int 3)), ("reward", (.int 3)), ("reject", (.int 1)), ("stop", (.int 1))] : List (Str × D)) = some (.int 2) := by rfl
theorem l_choose : List.lookup ("choose" : Str) ([("exit", (.int 2)), ("draw", (.int 2)), ("choose", (.int 2)), ("call", (.int 3)), ("reward", (.int 3)), ("reject", (.int 1)), ("stop", (.int 1))] : List (Str × D)) = some (.int 2) := by rfl
theorem l_call : List.lookup ("call" : Str) ([("exit", (.int 2)), ("draw", (.int 2)), ("choose", (.int 2)), ("call", (.int 3)), ("reward", (.int 3)), ("reject", (.int 1)), ("stop", (.int 1))] : List (Str × D)) = some (.int 3) := by rfl
theorem l_reward : List.lookup ("reward" : Str) ([("exit", (.int 2)), ("draw", (.int 2)), ("choose", (.int 2)), ("call", (.int 3)), ("reward", (.int 3)), ("reject", (.int 1)), ("stop", (.int 1))] : List (Str × D)) = some (.int 3) := by rfl
theorem l_reject : List.lookup ("reject" : Str) ([("exit", (.int 2)), ("draw", (.int 2)), ("choose", (.int 2)), ("call", (.int 3)), ("reward", (.int 3)), ("reject", (.int 1)), ("stop", (.int 1))] : List (Str × D)) = some (.int 1) := by rfl
theorem l_stop : List.lookup ("stop" : Str) ([("exit", (.int 2)), ("draw", (.int 2)), ("choose", (.int 2)), ("call", (.int 3)), ("reward", (.int 3)), ("reject", (.int 1)), ("stop", (.int 1))] : List (Str × D)) = some (.int 1) := by rfl
end
/-! ### the data -/
/-- a point -/
inductive Pt where
  | exit (e : Nat) | draw (bs : List (Rat × Nat)) | choose (ps : List Nat) | call (p : Nat) (ps : List Nat) | reward (a : Rat) (p : Nat) | reject | stop
def iD (n : Nat) : D := .int (n : Int)
def dB (b : Rat × Nat) : D := .tup [dr b.1, iD b.2]
def dPt : Pt → D
  | .exit e => .tup [.str "exit", iD e]
  | .draw bs => .tup [.str "draw", .tup (bs.map dB)]
  | .choose ps => .tup [.str "choose", .tup (ps.map iD)]
  | .call p ps => .tup [.str "call", iD p, .tup (ps.map iD)]
  | .reward a p => .tup [.str "reward", dr a, iD p]
  | .reject => .tup [.str "reject"]
  | .stop => .tup [.str "stop"]
/-- a procedure -/
structure Pr where
  ex : Nat
  pts : List Pt
def dP (p : Pr) : D := .tup [iD p.ex, .tup (p.pts.map dPt)]
abbrev Gr := List Pr
def dG (g : Gr) : D := .tup (g.map dP)
/-! ### what is wanted of it -/
def OkB (many : Nat) (b : Rat × Nat) : Prop := 0 < b.1.num ∧ b.1.num ≤ 60 ∧ b.1.den ≤ 60 ∧ b.2 < many
def sumR (bs : List (Rat × Nat)) : Rat := bs.foldl (fun t b => t + b.1) 0
def OkPt (g : Gr) (ex many : Nat) : Pt → Prop
  | .exit e => e < ex
  | .draw bs => 1 ≤ bs.length ∧ bs.length ≤ 4 ∧ (∀ b ∈ bs, OkB many b) ∧ sumR bs = 1
  | .choose ps => 1 ≤ ps.length ∧ ps.length ≤ 4 ∧ ∀ p ∈ ps, p < many
  | .call p ps => ∃ q, g[p]? = some q ∧ ps.length = q.ex ∧ ∀ p ∈ ps, p < many
  | .reward a p => 0 ≤ a.num ∧ a.num ≤ 1000 ∧ a.den ≤ 12 ∧ p < many
  | _ => True
structure OkG (g : Gr) : Prop where
  l1 : 1 ≤ g.length
  l6 : g.length ≤ 6
  ex : ∀ p ∈ g, p.ex ≤ 3
  p1 : ∀ p ∈ g, 1 ≤ p.pts.length
  p16 : ∀ p ∈ g, p.pts.length ≤ 16
  all : (g.map fun p => p.pts.length).sum ≤ 40
  pt : ∀ p ∈ g, ∀ x ∈ p.pts, OkPt g p.ex p.pts.length x
/-! ### it is plain -/
theorem all_map {α : Type} {f : α → D} {k : Nat} (h : ∀ a, pln k (f a) = true) (xs : List α) : (xs.map f).all (pln k) = true := by
  rw [List.all_eq_true]
  intro d hd
  obtain ⟨a, _, rfl⟩ := List.mem_map.mp hd
  exact h a
theorem pln_iD {k n : Nat} : pln (k + 1) (iD n) = true := rfl
theorem pln_dr {k : Nat} {r : Rat} : pln (k + 1 + 1) (dr r) = true := rfl
theorem pln_tup {k : Nat} {ds : List D} : pln (k + 1) (.tup ds) = ds.all (pln k) := rfl
theorem pln_dB {k : Nat} {b : Rat × Nat} : pln (k + 1 + 1 + 1) (dB b) = true := rfl
theorem ok_exit : PyData.strOk ("exit" : Str) = true := by decide +kernel
theorem ok_draw : PyData.strOk ("draw" : Str) = true := by decide +kernel
theorem ok_choose : PyData.strOk ("choose" : Str) = true := by decide +kernel
theorem ok_call : PyData.strOk ("call" : Str) = true := by decide +kernel
theorem ok_reward : PyData.strOk ("reward" : Str) = true := by decide +kernel
theorem ok_reject : PyData.strOk ("reject" : Str) = true := by decide +kernel
theorem ok_stop : PyData.strOk ("stop" : Str) = true := by decide +kernel
theorem pln_str {k : Nat} {x : Str} : pln (k + 1) (.str x) = PyData.strOk x := rfl
theorem pln_dPt {k : Nat} : ∀ x : Pt, pln (k + 1 + 1 + 1 + 1 + 1 + 1) (dPt x) = true
  | .exit e => by simp only [dPt, pln_tup, pln_str, List.all_cons, List.all_nil, ok_exit, pln_iD, Bool.and_self]
  | .draw bs => by simp only [dPt, pln_tup, pln_str, List.all_cons, List.all_nil, ok_draw, all_map (fun b => pln_dB), Bool.and_self]
  | .choose ps => by simp only [dPt, pln_tup, pln_str, List.all_cons, List.all_nil, ok_choose, all_map (fun b => pln_iD), Bool.and_self]
  | .call p ps => by simp only [dPt, pln_tup, pln_str, List.all_cons, List.all_nil, ok_call, pln_iD, all_map (fun b => pln_iD), Bool.and_self]
  | .reward a p => by simp only [dPt, pln_tup, pln_str, List.all_cons, List.all_nil, ok_reward, pln_iD, pln_dr, Bool.and_self]
  | .reject => by simp only [dPt, pln_tup, pln_str, List.all_cons, List.all_nil, ok_reject, Bool.and_self]
  | .stop => by simp only [dPt, pln_tup, pln_str, List.all_cons, List.all_nil, ok_stop, Bool.and_self]
theorem pln_dP {p : Pr} : pln 10 (dP p) = true := by
  simp only [dP, pln_tup, List.all_cons, List.all_nil, pln_iD, all_map pln_dPt, Bool.and_self]
theorem pln_dG {g : Gr} : pln 11 (dG g) = true := by
  simp only [dG, pln_tup, all_map (fun _ => pln_dP)]
theorem pln_succ : ∀ (k : Nat) (d : D), pln k d = true → pln (k + 1) d = true
  | 0, _, h => by cases h
  | k + 1, d, h => by
    cases d with
    | non => rfl
    | int i => rfl
    | str x => exact h
    | tup ds =>
      have h : ds.all (pln k) = true := h
      show ds.all (pln (k + 1)) = true
      rw [List.all_eq_true] at h ⊢
      exact fun d hd => pln_succ k d (h d hd)
    | _ => cases h
theorem pln_up {k : Nat} {d : D} (h : pln k d = true) : ∀ j : Nat, pln (k + j) d = true
  | 0 => h
  | j + 1 => pln_succ _ _ (pln_up h j)
theorem pln_G {g : Gr} : pln 16 (dG g) = true := pln_up pln_dG 5
/-! ### what the program's checks say -/
section
variable {h : IH} {g : Gr}
theorem ev_is_index {n many : Nat} : F_is_index [iD n, iD many] h = .ok (.bl (decide (n < many))) h := by
  have : (0 : Int) ≤ (n : Int) := Int.natCast_nonneg n
  simp [F_is_index, M_is_index, defM, iD, ev_is_integer, this]
theorem ev_is_index' {n many : Nat} : F_is_index [.int (n : Int), .int (many : Int)] h = .ok (.bl (decide (n < many))) h := ev_is_index
theorem ev_is_chance {x : Rat} : F_is_chance [dr x] h = .ok (.bl (decide (0 < x.num) && decide (x.den ≤ 60))) h := by
  have : decide ((x.den : Int) ≤ 60) = decide (x.den ≤ 60) := by
    rw [Bool.eq_iff_iff, decide_eq_true_eq, decide_eq_true_eq]
    omega
  by_cases c : 0 < x.num
  · simp [F_is_chance, M_is_chance, defM, isr_dr, c, this]
  · simp [F_is_chance, M_is_chance, defM, isr_dr, c]
theorem ev_is_amount {x : Rat} : F_is_amount [dr x] h = .ok (.bl (decide (0 ≤ x.num) && (decide (x.num ≤ 1000) && decide (x.den ≤ 12)))) h := by
  have : decide ((x.den : Int) ≤ 12) = decide (x.den ≤ 12) := by
    rw [Bool.eq_iff_iff, decide_eq_true_eq, decide_eq_true_eq]
    omega
  by_cases c : 0 ≤ x.num
  · by_cases c2 : x.num ≤ 1000
    · simp [F_is_amount, M_is_amount, defM, isr_dr, c, c2, this]
    · simp [F_is_amount, M_is_amount, defM, isr_dr, c, c2]
  · simp [F_is_amount, M_is_amount, defM, isr_dr, c]
theorem tyN_dB {b : Rat × Nat} : tyN h (dB b) = some "tuple" := rfl
theorem lenF_dB {b : Rat × Nat} : lenF [dB b] h = .ok (.int 2) h := rfl
theorem okV_dB {b : Rat × Nat} : okV h (dB b) = .ok (dB b) h := rfl
theorem okV_iD {n : Nat} : okV h (iD n) = .ok (iD n) h := rfl
theorem gtup_dB {b : Rat × Nat} {gs : MGs} {env : Ev} : gtupM 2 gs (dB b) env = gs [dr b.1, iD b.2] env := rfl
/-- a comprehension whose items all give true -/
theorem lc_all {ma : ME} {own : List Nat} {g : MG} {me : ME} {env : Ev} {ds : List D} (e : seqI ma env h = .ok (.snap ds) h) (hl : ds.length ≤ 16777215) (H : ∀ d ∈ ds, ∃ e1, g d (wipeE env own) = some e1 ∧ me e1 h = .ok (.bl true) h) :
    lcM (seqI ma) own g yesM me env h = .ok (.ref h.length) (h ++ [.lst (ds.map fun _ => .bl true)]) := by
  have e2 := lcS_all (h := h) H
  unfold lcM
  rw [e]
  have hm : ds.length ≤ MOST := by unfold MOST; exact hl
  simp only [R.bind, R.bindG_ok, hm, if_true]
  rw [e2]
  rfl
theorem ev_points_problem {ps : List Nat} {many : Nat} (H : ∀ p ∈ ps, p < many) (hl : ps.length ≤ 1000) : F_points_problem [.tup (ps.map iD), iD many] h = .ok .non h := by
  have e := lc_all (h := h) (ma := varM 0) (own := [2]) (g := gnameM 2) (me := callM F_is_index (aconsM (varM 2) (aconsM (varM 1) anilM))) (env := [some (.tup (ps.map iD)), some (iD many), none]) (ds := ps.map iD) (by simp) (by rw [List.length_map]; omega) (fun d hd => by
    obtain ⟨p, hp, rfl⟩ := List.mem_map.mp hd
    refine ⟨[some (.tup (ps.map iD)), some (iD many), some (iD p)], rfl, ?_⟩
    have := H p hp
    simp [okV_iD, ev_is_index, this])
  have e2 := all_true (h := h) (ds := ps.map iD)
  simp only [List.map_map] at e e2
  simp [F_points_problem, M_points_problem, defM, e, e2]
  exact trunc_app rfl
theorem ev_has_form : ∀ x : Pt, (∀ bs, x = .draw bs → bs.length ≤ 1000) → F_has_form [dPt x] h = .ok (.bl true) h
  | .exit e, _ => by
    have q := fun h => ev_is_integer (h := h) (n := (e : Int))
    simp [F_has_form, M_has_form, defM, dPt, iD, wgetM, l_exit, w_exit_exit, q]
  | .draw bs, hb => by
    have e := lc_all (h := h) (ma := binM ixM (varM 0) (constM (.int 1))) (own := [1]) (g := gnameM 1) (me := andM (isiM "tuple" (varM 1)) (binM eqM (callM lenF (aconsM (varM 1) anilM)) (constM (.int 2)))) (env := [some (dPt (.draw bs)), none]) (ds := bs.map dB) (by simp [dPt]) (by
        have := hb bs rfl
        rw [List.length_map]; omega) (fun d hd => by
      obtain ⟨b, _, rfl⟩ := List.mem_map.mp hd
      refine ⟨[some (dPt (.draw bs)), some (dB b)], rfl, ?_⟩
      simp [okV_dB, tyN_dB, lenF_dB])
    have e2 := all_true (h := h) (ds := bs.map dB)
    simp only [List.map_map] at e e2
    simp only [dPt] at e
    simp [F_has_form, M_has_form, defM, dPt, wgetM, l_draw, w_draw_exit, w_draw_draw, e, e2]
    exact trunc_app rfl
  | .choose ps, _ => by
    simp [F_has_form, M_has_form, defM, dPt, wgetM, l_choose, w_choose_exit, w_choose_draw, w_choose_choose]
  | .call p ps, _ => by
    have q := fun h => ev_is_integer (h := h) (n := (p : Int))
    simp [F_has_form, M_has_form, defM, dPt, iD, wgetM, l_call, w_call_exit, w_call_draw, w_call_choose, w_call_call, q]
  | .reward a p, _ => by
    simp [F_has_form, M_has_form, defM, dPt, iD, wgetM, l_reward, w_reward_exit, w_reward_draw, w_reward_choose, w_reward_call]
  | .reject, _ => by
    simp [F_has_form, M_has_form, defM, dPt, wgetM, l_reject, w_reject_exit, w_reject_draw, w_reject_choose, w_reject_call]
  | .stop, _ => by
    simp [F_has_form, M_has_form, defM, dPt, wgetM, l_stop, w_stop_exit, w_stop_draw, w_stop_choose, w_stop_call]
end
end Zc
/-! G1L: graphs that are right are made. -/
namespace Zc
open PySem L2 Z Q
section
variable {h : IH} {g : Gr}
theorem OkB.rb {many : Nat} {b : Rat × Nat} (o : OkB many b) : RB 7 b.1 := by
  obtain ⟨h1, h2, h3, _⟩ := o
  have hd := b.1.den_pos
  exact ⟨by unfold Bit; omega, by unfold Bit; omega⟩
noncomputable def drawB : MS := (seqM (ifM (tnotM (testM (callM F_is_chance (aconsM (varM 3) anilM)))) (retM (constM (.str "chance"))) nextM)
  (seqM (ifM (tnotM (testM (callM F_is_index (aconsM (varM 4) (aconsM (varM 1) anilM))))) (retM (constM (.str "point"))) nextM)
  (setM 2 (callM F_plus (aconsM (varM 2) (aconsM (varM 3) anilM))))))
theorem draw_loop {many : Nat} {d0 : D} : ∀ (bs : List (Rat × Nat)) (t : Rat) (k : Nat) (x y : Option D), (∀ b ∈ bs, OkB many b) → RB k t → 0 < k → k + 8 * bs.length ≤ 8000 →
    ∃ x' y', forS (gtupM 2 (gconsM (gnameM 3) (gconsM (gnameM 4) gnilM))) drawB (bs.map dB) [some d0, some (iD many), some (dr t), x, y] h = .nx [some d0, some (iD many), some (dr (bs.foldl (fun t b => t + b.1) t)), x', y'] h
  | [], t, k, x, y, _, _, _, _ => ⟨x, y, rfl⟩
  | b :: bs, t, k, x, y, ok, rt, k0, hk => by
    have ob := ok b List.mem_cons_self
    have rb := ob.rb
    obtain ⟨h1, h2, h3, h4⟩ := ob
    simp only [List.length_cons] at hk
    obtain ⟨x', y', ih⟩ := draw_loop (many := many) (d0 := d0) bs (t + b.1) (k + 7 + 1) (some (dr b.1)) (some (iD b.2)) (fun c hc => ok c (List.mem_cons_of_mem _ hc)) (rt.add rb) (by omega) (by omega)
    refine ⟨x', y', ?_⟩
    have e1 := fun h => ev_is_chance (h := h) (x := b.1)
    have e2 := fun h => ev_is_index (h := h) (n := b.2) (many := many)
    have e3 := fun h => ev_plus (h := h) rt rb (by omega) k0 (by decide)
    rw [List.map_cons, forS_cons]
    simp [turnM_eq, gtup_dB, drawB, okV_iD, e1, e2, e3, h1, h3, h4]
    exact ih
theorem ev_draw_problem {bs : List (Rat × Nat)} {many : Nat} (l1 : 1 ≤ bs.length) (l4 : bs.length ≤ 4) (ok : ∀ b ∈ bs, OkB many b) (s : sumR bs = 1) : F_draw_problem [.tup (bs.map dB), iD many] h = .ok .non h := by
  obtain ⟨x', y', e⟩ := draw_loop (h := h) (many := many) (d0 := .tup (bs.map dB)) bs 0 1 none none ok RB.zero (by decide) (by omega)
  have es : bs.foldl (fun t b => t + b.1) 0 = 1 := s
  rw [es] at e
  unfold drawB at e
  have z0 : D.tup [.int 0, .int 1] = dr 0 := rfl
  have z1 : D.tup [.int 1, .int 1] = dr 1 := rfl
  have c1 : (1 : Int) ≤ (bs.length : Int) := by omega
  have c4 : (bs.length : Int) ≤ 4 := by omega
  simp [F_draw_problem, M_draw_problem, defM, tupM_eq, z0, z1, c1, c4, e, okV_iD]
theorem ixM_iD {ds : List D} {n : Nat} : ixM (.tup ds) (iD n) h = match ds[n]? with
  | some d => .ok d h
  | none => .stuck := by
  cases e : ds[n]? with
  | some d =>
    have := atI_of e
    simp [iD, this]
  | none =>
    have : atI ds (n : Int) = none := by
      unfold atI ixN
      have := List.getElem?_eq_none_iff.mp e
      rw [if_pos (by omega), if_neg (by omega)] <;> rfl
    simp [iD, this]
theorem okV_dP {p : Pr} : okV h (dP p) = .ok (dP p) h := rfl
theorem okV_dG : okV h (dG g) = .ok (dG g) h := rfl
theorem okV_dPt {x : Pt} : okV h (dPt x) = .ok (dPt x) h := by cases x <;> rfl
theorem ixM_dP0 {p : Pr} : ixM (dP p) (.int 0) h = .ok (iD p.ex) h := by simp [dP]
theorem ixM_dP1 {p : Pr} : ixM (dP p) (.int 1) h = .ok (.tup (p.pts.map dPt)) h := by simp [dP]
theorem lenF_dP {p : Pr} : lenF [dP p] h = .ok (.int 2) h := rfl
theorem tyN_dP {p : Pr} : tyN h (dP p) = some "tuple" := rfl
theorem tyN_dG : tyN h (dG g) = some "tuple" := rfl
theorem lenF_dG : lenF [dG g] h = .ok (.int (g.length : Int)) h := by simp [dG]
theorem iD_def {n : Nat} : D.int (n : Int) = iD n := rfl
theorem ixM_dG {n : Nat} {p : Pr} (e : g[n]? = some p) : ixM (dG g) (iD n) h = .ok (dP p) h := by
  unfold dG
  rw [ixM_iD, List.getElem?_map, e]
  rfl
theorem ev_point_problem {p : Pr} {x : Pt} (hx : ∀ p ∈ g, p.ex ≤ 3) (l16 : p.pts.length ≤ 1000) (ok : OkPt g p.ex p.pts.length x) : F_point_problem [dG g, dP p, dPt x] h = .ok .non h := by
  have ef := fun h => ev_has_form (h := h) x (fun bs e => by subst e; have := ok.2.1; omega)
  have el : ∀ h, lenF [.tup (p.pts.map dPt)] h = .ok (iD p.pts.length) h := fun h => by simp [iD]
  cases x with
  | exit e =>
    have ei := fun h => ev_is_index (h := h) (n := e) (many := p.ex)
    have ok : e < p.ex := ok
    have i0 : ∀ h, ixM (dPt (.exit e)) (.int 0) h = .ok (.str "exit") h := fun h => by simp [dPt]
    have i1 : ∀ h, ixM (dPt (.exit e)) (.int 1) h = .ok (iD e) h := fun h => by simp [dPt]
    simp [F_point_problem, M_point_problem, defM, okV_dG, okV_dP, okV_dPt, ixM_dP0, ixM_dP1, -lenF_tup, el, ef, i0, i1, w_exit_exit, ei, ok]
  | draw bs =>
    have ed := fun h => ev_draw_problem (h := h) ok.1 ok.2.1 ok.2.2.1 ok.2.2.2
    have i0 : ∀ h, ixM (dPt (.draw bs)) (.int 0) h = .ok (.str "draw") h := fun h => by simp [dPt]
    have i1 : ∀ h, ixM (dPt (.draw bs)) (.int 1) h = .ok (.tup (bs.map dB)) h := fun h => by simp [dPt]
    simp [F_point_problem, M_point_problem, defM, okV_dG, okV_dP, okV_dPt, okV_iD, ixM_dP0, ixM_dP1, -lenF_tup, el, ef, i0, i1, w_draw_exit, w_draw_draw, ed]
  | choose ps =>
    have ed := fun h => ev_points_problem (h := h) (ps := ps) (many := p.pts.length) ok.2.2 (by have := ok.2.1; omega)
    have i0 : ∀ h, ixM (dPt (.choose ps)) (.int 0) h = .ok (.str "choose") h := fun h => by simp [dPt]
    have i1 : ∀ h, ixM (dPt (.choose ps)) (.int 1) h = .ok (.tup (ps.map iD)) h := fun h => by simp [dPt]
    have el2 : ∀ h, lenF [.tup (ps.map iD)] h = .ok (.int (ps.length : Int)) h := fun h => by simp
    have c1 : (1 : Int) ≤ (ps.length : Int) := by have := ok.1; omega
    have c4 : (ps.length : Int) ≤ 4 := by have := ok.2.1; omega
    simp [F_point_problem, M_point_problem, defM, okV_dG, okV_dP, okV_dPt, okV_iD, ixM_dP0, ixM_dP1, -lenF_tup, el, el2, ef, i0, i1, w_choose_exit, w_choose_draw, w_choose_choose, ed, c1, c4]
  | call q ps =>
    obtain ⟨pr, hq, hl, hp⟩ := ok
    have hps : ps.length ≤ 1000 := by
      have := hx pr (List.mem_of_getElem? hq)
      omega
    have ed := fun h => ev_points_problem (h := h) (ps := ps) (many := p.pts.length) hp hps
    have i0 : ∀ h, ixM (dPt (.call q ps)) (.int 0) h = .ok (.str "call") h := fun h => by simp [dPt]
    have i1 : ∀ h, ixM (dPt (.call q ps)) (.int 1) h = .ok (iD q) h := fun h => by simp [dPt]
    have i2 : ∀ h, ixM (dPt (.call q ps)) (.int 2) h = .ok (.tup (ps.map iD)) h := fun h => by simp [dPt]
    have el2 : ∀ h, lenF [.tup (ps.map iD)] h = .ok (iD ps.length) h := fun h => by simp [iD]
    have elg : ∀ h, lenF [dG g] h = .ok (iD g.length) h := fun h => lenF_dG
    have ei := fun h => ev_is_index (h := h) (n := q) (many := g.length)
    have hq' : q < g.length := (List.getElem?_eq_some_iff.mp hq).1
    have ix := fun h => ixM_dG (h := h) hq
    have nn : ∀ h, neM (iD ps.length) (iD pr.ex) h = .ok (.bl false) h := fun h => by rw [hl]; unfold iD; simp
    simp [F_point_problem, M_point_problem, defM, okV_dG, okV_dP, okV_dPt, okV_iD, ixM_dP0, ixM_dP1, -lenF_tup, el, el2, elg, ef, i0, i1, i2, w_call_exit, w_call_draw, w_call_choose, w_call_call, ei, hq', ix, nn, ed]
  | reward a q =>
    obtain ⟨h1, h2, h3, h4⟩ := ok
    have ed := fun h => ev_points_problem (h := h) (ps := [q]) (many := p.pts.length) (by simpa using h4) (by simp)
    simp only [List.map_cons, List.map_nil] at ed
    have ea := fun h => ev_is_amount (h := h) (x := a)
    have i0 : ∀ h, ixM (dPt (.reward a q)) (.int 0) h = .ok (.str "reward") h := fun h => by simp [dPt]
    have i1 : ∀ h, ixM (dPt (.reward a q)) (.int 1) h = .ok (dr a) h := fun h => by simp [dPt]
    have i2 : ∀ h, ixM (dPt (.reward a q)) (.int 2) h = .ok (iD q) h := fun h => by simp [dPt]
    simp [F_point_problem, M_point_problem, defM, okV_dG, okV_dP, okV_dPt, okV_iD, ixM_dP0, ixM_dP1, -lenF_tup, el, ef, i0, i1, i2, w_reward_exit, w_reward_draw, w_reward_choose, w_reward_call, w_reward_reward, ea, h1, h2, h3, tupM_eq, ed]
  | reject =>
    have i0 : ∀ h, ixM (dPt .reject) (.int 0) h = .ok (.str "reject") h := fun h => by simp [dPt]
    simp [F_point_problem, M_point_problem, defM, okV_dG, okV_dP, okV_dPt, ixM_dP0, ixM_dP1, -lenF_tup, el, ef, i0, w_reject_exit, w_reject_draw, w_reject_choose, w_reject_call, w_reject_reward]
  | stop =>
    have i0 : ∀ h, ixM (dPt .stop) (.int 0) h = .ok (.str "stop") h := fun h => by simp [dPt]
    simp [F_point_problem, M_point_problem, defM, okV_dG, okV_dP, okV_dPt, ixM_dP0, ixM_dP1, -lenF_tup, el, ef, i0, w_stop_exit, w_stop_draw, w_stop_choose, w_stop_call, w_stop_reward]
theorem ev_check_procedure {p : Pr} {d : D} (he : p.ex ≤ 3) (h1 : 1 ≤ p.pts.length) (h16 : p.pts.length ≤ 16) (hd : okV h d = .ok d h) : F_check_procedure [d, dP p] h = .ok .non h := by
  have q := fun h => ev_is_integer (h := h) (n := (p.ex : Int))
  have el : ∀ h, lenF [.tup (p.pts.map dPt)] h = .ok (.int (p.pts.length : Int)) h := fun h => by simp
  have c0 : (0 : Int) ≤ (p.ex : Int) := by omega
  have c3 : (p.ex : Int) ≤ 3 := by omega
  have c1 : (1 : Int) ≤ (p.pts.length : Int) := by omega
  have c16 : (p.pts.length : Int) ≤ 16 := by omega
  have i0 : ∀ h, ixM (dP p) (.int 0) h = .ok (.int (p.ex : Int)) h := fun h => ixM_dP0
  simp [F_check_procedure, M_check_procedure, defM, okV_dP, tyN_dP, lenF_dP, i0, ixM_dP1, q, -lenF_tup, el, c0, c3, c1, c16]
/-- a walk over an enumeration that leaves the heap -/
theorem enum_walk {α : Type} {f : α → D} {g : MG} {mb : MS} {P : Ev → Prop} : ∀ (xs : List α) (i : Nat) (env : Ev), P env →
    (∀ a ∈ xs, ∀ (i : Nat) (e : Ev), P e → ∃ e1 e2, g (.tup [iD i, f a]) e = some e1 ∧ mb e1 h = .nx e2 h ∧ P e2) → ∃ e', forS g mb (enD i (xs.map f)) env h = .nx e' h ∧ P e'
  | [], i, env, p, _ => ⟨env, rfl, p⟩
  | a :: xs, i, env, p, H => by
    obtain ⟨e1, e2, h1, h2, h3⟩ := H a List.mem_cons_self i env p
    obtain ⟨e', h4, h5⟩ := enum_walk xs (i + 1) e2 h3 fun b hb => H b (List.mem_cons_of_mem _ hb)
    refine ⟨e', ?_, h5⟩
    show turnM g mb (.tup [iD i, f a]) env h (forS g mb (enD (i + 1) (xs.map f))) = _
    unfold turnM
    rw [h1]
    dsimp only
    rw [h2]
    exact h4
theorem enumI_tup {ma : ME} {env : Ev} {ds : List D} (e : ma env h = .ok (.tup ds) h) : enumI (oneM (aconsM ma anilM)) env h = .ok (.snap (enD 0 ds)) h := by
  unfold enumI oneM
  simp [R.bind, e]
theorem ints_sum : ∀ (l : List Nat), (l.map fun (n : Nat) => (n : Int)).sum = ((l.sum : Nat) : Int)
  | [] => rfl
  | n :: l => by
    rw [List.map_cons, List.sum_cons, List.sum_cons, ints_sum l]
    omega
theorem lcS_map {α : Type} {f : α → D} {r : α → D} {g : MG} {me : ME} {env : Ev} : ∀ (xs : List α), (∀ a ∈ xs, ∃ e, g (f a) env = some e ∧ me e h = .ok (r a) h) → lcS g yesM me env (xs.map f) h = .ok (xs.map r) h
  | [], _ => rfl
  | a :: xs, H => by
    obtain ⟨e, h1, h2⟩ := H a List.mem_cons_self
    have ih := lcS_map xs fun b hb => H b (List.mem_cons_of_mem _ hb)
    show (match g (f a) env with
      | none => R.stuck
      | some e => (yesM e h).bindG (fun _ _ => .stuck) .stuck fun b h => if b = true then (me e h).bindG (fun _ _ => .stuck) .stuck fun y h => (lcS g yesM me env (xs.map f) h).bind fun ys h => .ok (y :: ys) h else lcS g yesM me env (xs.map f) h) = _
    rw [h1]
    show (me e h).bindG (fun _ _ => .stuck) .stuck (fun y h => (lcS g yesM me env (xs.map f) h).bind fun ys h => .ok (y :: ys) h) = _
    rw [h2]
    show (lcS g yesM me env (xs.map f) h).bind (fun ys h => .ok (r a :: ys) h) = _
    rw [ih]
    rfl
/-- a comprehension over things that stand, which leaves the heap -/
theorem lc_map {α : Type} {f : α → D} {r : α → D} {mi : MI} {own : List Nat} {g : MG} {me : ME} {env : Ev} {xs : List α} (e : mi env h = .ok (.snap (xs.map f)) h) (hl : xs.length ≤ 16777215) (H : ∀ a ∈ xs, ∃ e1, g (f a) (wipeE env own) = some e1 ∧ me e1 h = .ok (r a) h) :
    lcM mi own g yesM me env h = .ok (.ref h.length) (h ++ [.lst (xs.map r)]) := by
  unfold lcM
  rw [e]
  have hm : (xs.map f).length ≤ MOST := by unfold MOST; rw [List.length_map]; exact hl
  simp only [R.bind, R.bindG_ok, hm, if_true]
  rw [lcS_map xs H]
  rfl
theorem its_map' {α : Type} {r : α → Int} : ∀ (xs : List α), its' (xs.map fun a => D.int (r a)) = some (xs.map r)
  | [] => rfl
  | a :: xs => by
    rw [List.map_cons]
    unfold its'
    rw [its_map' xs]
    rfl
theorem sumF_new {ns : List Int} : sumF [.ref h.length] (h ++ [.lst (ns.map .int)]) = .ok (.int ns.sum) (h ++ [.lst (ns.map .int)]) := by
  have e : lisOf (h ++ [IO.lst (ns.map .int)]) (.ref h.length) = some (ns.map .int) := by simp [lisOf]
  have e2 : its' (ns.map .int) = some ns := by
    have := its_map' (r := fun i : Int => i) ns
    simpa using this
  unfold sumF
  simp [e, e2]
theorem trunc_any {h h' : IH} {d : D} (e : trunc h (.ok d h') = .ok d h) : trunc h (.ok d h') = .ok d h := e
theorem ev_check_procedures (ok : OkG g) : F_check_procedures [dG g] h = .ok .non h := by
  have l6 := ok.l6
  have l1 : (1 : Int) ≤ (g.length : Int) := by have := ok.l1; omega
  have l6' : (g.length : Int) ≤ 6 := by omega
  -- the procedures
  obtain ⟨e1, w1, d1, p1, rfl⟩ := enum_walk (h := h) (f := dP) (g := gtupM 2 (gconsM (gnameM 1) (gconsM (gnameM 2) gnilM))) (mb := exprM (callM F_check_procedure (aconsM (varM 1) (aconsM (varM 2) anilM)))) (P := fun e => ∃ a b, e = [some (dG g), a, b, none, none, none]) g 0 [some (dG g), none, none, none, none, none] ⟨_, _, rfl⟩ (by
    rintro p hp i e ⟨a, b, rfl⟩
    have q := fun h => ev_check_procedure (h := h) (p := p) (d := iD i) (ok.ex p hp) (ok.p1 p hp) (ok.p16 p hp) okV_iD
    refine ⟨[some (dG g), some (iD i), some (dP p), none, none, none], [some (dG g), some (iD i), some (dP p), none, none, none], rfl, ?_, _, _, rfl⟩
    simp [okV_iD, okV_dP, q])
  -- how many points
  have w2 := fun (x y : Option D) => lc_map (h := h) (f := dP) (r := fun p => D.int (p.pts.length : Int)) (mi := seqI (varM 0)) (own := [2]) (g := gnameM 2) (me := callM lenF (aconsM (binM ixM (varM 2) (constM (.int 1))) anilM)) (env := [some (dG g), x, y, none, none, none]) (xs := g) (by simp [okV_dG, dG]) (by omega) (fun p hp => ⟨[some (dG g), x, some (dP p), none, none, none], rfl, by simp [okV_dP, ixM_dP1]⟩)
  have ml : (g.map fun p => D.int (p.pts.length : Int)) = ((g.map fun p => p.pts.length).map fun (n : Nat) => (n : Int)).map D.int := by simp
  rw [ml] at w2
  have w3 := sumF_new (h := h) (ns := (g.map fun p => p.pts.length).map fun (n : Nat) => (n : Int))
  rw [ints_sum] at w3
  generalize ((g.map fun p => p.pts.length).map fun (n : Nat) => (n : Int)).map D.int = L at w2 w3
  have c40 : ¬ (40 : Int) < (((g.map fun p => p.pts.length).sum : Nat) : Int) := by have := ok.all; omega
  -- the points
  have w4 := fun (H : IH) (x y : Option D) => enum_walk (h := H) (f := dP) (g := gtupM 2 (gconsM (gnameM 1) (gconsM (gnameM 2) gnilM))) (mb := forM (enumI (oneM (aconsM (binM ixM (varM 2) (constM (.int 1))) anilM))) (gtupM 2 (gconsM (gnameM 3) (gconsM (gnameM 4) gnilM))) (seqM (setM 5 (callM F_point_problem (aconsM (varM 0) (aconsM (varM 2) (aconsM (varM 4) anilM))))) (ifM (btestM (binM (isM true) (varM 5) (constM .non))) (raiseM "BadGraph" ["where", "why"] (aconsM (tupM (aconsM (varM 1) (aconsM (varM 3) anilM))) (aconsM (varM 5) anilM))) nextM))) (P := fun e => ∃ a b c d q, e = [some (dG g), a, b, c, d, q]) g 0 [some (dG g), x, y, none, none, none] ⟨_, _, _, _, _, rfl⟩ (by
    rintro p hp i e ⟨a, b, c, d, q, rfl⟩
    obtain ⟨e2, v1, a1, a2, a3, rfl⟩ := enum_walk (h := H) (f := dPt) (g := gtupM 2 (gconsM (gnameM 3) (gconsM (gnameM 4) gnilM))) (mb := seqM (setM 5 (callM F_point_problem (aconsM (varM 0) (aconsM (varM 2) (aconsM (varM 4) anilM))))) (ifM (btestM (binM (isM true) (varM 5) (constM .non))) (raiseM "BadGraph" ["where", "why"] (aconsM (tupM (aconsM (varM 1) (aconsM (varM 3) anilM))) (aconsM (varM 5) anilM))) nextM)) (P := fun e => ∃ c d q, e = [some (dG g), some (iD i), some (dP p), c, d, q]) p.pts 0 [some (dG g), some (iD i), some (dP p), c, d, q] ⟨_, _, _, rfl⟩ (by
      rintro x hx j e ⟨c, d, q, rfl⟩
      have q := fun h => ev_point_problem (h := h) (g := g) (p := p) (x := x) ok.ex (by have := ok.p16 p hp; omega) (ok.pt p hp x hx)
      refine ⟨[some (dG g), some (iD i), some (dP p), some (iD j), some (dPt x), _], [some (dG g), some (iD i), some (dP p), some (iD j), some (dPt x), some .non], rfl, ?_, _, _, _, rfl⟩
      simp [okV_dG, okV_dP, okV_dPt, q])
    refine ⟨[some (dG g), some (iD i), some (dP p), c, d, q], [some (dG g), some (iD i), some (dP p), a1, a2, a3], rfl, ?_, _, _, _, _, _, rfl⟩
    have ei := enumI_tup (h := H) (ma := binM ixM (varM 2) (constM (.int 1))) (env := [some (dG g), some (iD i), some (dP p), c, d, q]) (ds := p.pts.map dPt) (by simp [okV_dP, ixM_dP1])
    rw [forM_eq, ei]
    exact v1)
  have en := fun (H : IH) (x y : Option D) => enumI_tup (h := H) (ma := varM 0) (env := [some (dG g), x, y, none, none, none]) (ds := g.map dP) (by simp [okV_dG, dG])
  obtain ⟨e4, v4, _⟩ := w4 (h ++ [IO.lst L]) d1 p1
  simp [F_check_procedures, M_check_procedures, defM, tyN_dG, okV_dG, lenF_dG, l1, l6', en, w1, w2, w3, c40, v4]
  exact trunc_app rfl
/-! ### graphs -/
def gF (g : Gr) : List (Str × D) := [("procedures", dG g)]
theorem insAt_ref {n : Nat} {c : Str} {fs : List (Str × D)} (e : h[n]? = some (.ins c fs)) : insAt h (.ref n) = some (n, c, fs) := by
  unfold insAt
  simp only [e]
theorem okF_one {c f : Str} : okF [c] f c f = true := by simp [okF]
theorem ev_Graph_init (ok : OkG g) : F_Graph_init [.ref h.length, dG g] (h ++ [.ins "Graph" []]) = .ok .non (h ++ [.ins "Graph" (gF g)]) := by
  have e1 := fun h => ev_check_procedures (h := h) ok
  have e2 : insAt (h ++ [IO.ins "Graph" []]) (.ref h.length) = some (h.length, ("Graph" : Str), []) := insAt_ref (by simp)
  have e3 : (h ++ [IO.ins "Graph" []]).set h.length (.ins "Graph" (gF g)) = h ++ [IO.ins "Graph" (gF g)] := by simp
  have e4 : okF ["Graph"] "procedures" "Graph" "procedures" = true := okF_one
  have e5 : putD "procedures" (dG g) [] = gF g := rfl
  simp only [F_Graph_init, M_Graph_init, defM, seqM_eq, exprM_eq, callM_eq, aconsM_eq, anilM_eq, varM_get, getV_some, List.map_cons, List.map_nil, List.length_cons, List.length_nil, List.cons_append, List.nil_append, List.getElem?_cons_succ, List.getElem?_cons_zero, List.replicate_zero, Nat.sub_self, Nat.zero_add, Nat.reduceAdd, Nat.reduceSub, okV_dG, okV_ref, R.bindG_ok, R.bind, R.thenS, e1, ostM, e2, e3, e4, e5, finM_nx]
  rw [if_pos ⟨trivial, by decide⟩]
  exact trunc_len (by simp)
theorem mk_Graph {ma : MA} {env : Ev} (e : ma env h = .ok [dG g] h) (ok : OkG g) : mkM "Graph" F_Graph_init ma env h = .ok (.ref h.length) (h ++ [.ins "Graph" (gF g)]) := by
  unfold mkM
  rw [e]
  simp only [R.bind, R.bindG_ok, ev_Graph_init ok]
/-- the graph's procedures -/
theorem fld_procs {n : Nat} {ma : ME} {env : Ev} (e : ma env h = .ok (.ref n) h) (hn : h[n]? = some (.ins "Graph" (gF g))) : fldM (okF ["Graph"] "procedures") "procedures" ma env h = .ok (dG g) h := by
  unfold fldM
  rw [e]
  simp only [R.bind, R.bindG_ok, insAt_ref hn, okF_one, if_true]
  rfl
end
end Zc
/-! G1R: the law's own rationals (second kind); draws from the stream at 1. -/
namespace Zc
open PySem L2 Z Q
noncomputable def gcdC : MS := (seqM (ifM (btestM (binM eqM (varM 1) (constM (.int 0)))) brkM nextM)
  (seqM (setM 3 (binM modM (callM intF (aconsM (varM 0) anilM)) (varM 1)))
  (seqM (setM 0 (varM 1))
  (setM 1 (varM 3)))))
theorem gcdC0 {a : Int} {x y : Option D} {h : IH} : gcdC [some (.int a), some (.int 0), x, y] h = .bk [some (.int a), some (.int 0), x, y] h := by simp [gcdC]
theorem gcdC1 {a b : Int} {x y : Option D} {h : IH} (hb : 0 < b) : gcdC [some (.int a), some (.int b), x, y] h = .nx [some (.int b), some (.int (a % b)), x, some (.int (a % b))] h := by
  have c : ¬ b = 0 := by omega
  simp [gcdC, c, modM_pos hb]
theorem gcdU0 {a : Int} {d : D} {ds : List D} {x y : Option D} {h : IH} : forS (gnameM 2) gcdC (d :: ds) [some (.int a), some (.int 0), x, y] h = .nx [some (.int a), some (.int 0), some d, y] h := by
  rw [forS_cons, turnM_eq]
  simp [gcdC0]
theorem gcdU1 {a b : Int} {d : D} {ds : List D} {x y : Option D} {h : IH} (hb : 0 < b) : forS (gnameM 2) gcdC (d :: ds) [some (.int a), some (.int b), x, y] h = forS (gnameM 2) gcdC ds [some (.int b), some (.int (a % b)), some d, some (.int (a % b))] h := by
  rw [forS_cons, turnM_eq]
  simp [gcdC1 hb]
theorem gcdC_loop {h : IH} : ∀ (k : Nat) (a b : Int) (ds : List D) (x y : Option D), 0 ≤ a → 0 < b → steps b.natAbs ≤ 2 * k → 2 * k ≤ ds.length →
    ∃ x' y', forS (gnameM 2) gcdC ds [some (.int a), some (.int b), x, y] h = .nx [some (.int (Int.gcd a b : Nat)), some (.int 0), x', y'] h
  | 0, a, b, ds, x, y, _, _, hs, _ => by unfold steps at hs; omega
  | k + 1, a, b, ds, x, y, ha, hb, hs, hl => by
    match ds, hl with
    | d1 :: d2 :: ds, hl =>
      rw [gcdU1 hb, ← gcd_mod ha hb]
      have h1 := Int.emod_nonneg a (b := b) (by omega)
      have h2 := Int.emod_lt_of_pos a hb
      by_cases c : a % b = 0
      · rw [c, gcdU0]
        exact ⟨some d2, some (.int 0), by simp [Int.gcd]; omega⟩
      · have hb' : 0 < a % b := by omega
        rw [gcdU1 hb', ← gcd_mod (by omega) hb']
        have h3 := Int.emod_nonneg b (b := a % b) (by omega)
        by_cases c2 : b % (a % b) = 0
        · rw [c2]
          match ds with
          | [] => exact ⟨some d2, some (.int 0), by rw [forS_nil]; simp [Int.gcd]; omega⟩
          | d3 :: ds => rw [gcdU0]; exact ⟨some d3, some (.int 0), by simp [Int.gcd]; omega⟩
        · refine gcdC_loop k (a % b) (b % (a % b)) ds (some d2) _ h1 (by omega) ?_ (by simp at hl; omega)
          have hh : (b % (a % b)).natAbs.log2 + 1 ≤ b.natAbs.log2 := by
            refine log2_half ?_ (by omega)
            obtain ⟨m, rfl⟩ := Int.eq_ofNat_of_zero_le ha
            obtain ⟨n, rfl⟩ := Int.eq_ofNat_of_zero_le (Int.le_of_lt hb)
            exact euclid_half (a := m) (b := n) (by intro z; apply c; show ((m % n : Nat) : Int) = 0; omega) (by omega)
          unfold steps at *
          omega
theorem ev_law_gcd_2 {a b : Int} {h : IH} {k : Nat} (hb : Bit k b) (hk : k ≤ 900 := by decide) : F__law_gcd_2 [.int a, .int b] h = .ok (.int (Int.gcd a b : Nat)) h := by
  have ea : (if a < 0 then -a else a) = ((a.natAbs : Nat) : Int) := by split <;> omega
  have eb : (if b < 0 then -b else b) = ((b.natAbs : Nat) : Int) := by split <;> omega
  have key : ∃ x' y', forS (gnameM 2) gcdC (rngD 0 2000) [some (.int (a.natAbs : Nat)), some (.int (b.natAbs : Nat)), none, none] h = .nx [some (.int (Int.gcd a b : Nat)), some (.int 0), x', y'] h := by
    by_cases c : b.natAbs = 0
    · rw [c, show (2000 : Nat) = 1999 + 1 from rfl, rngD_cons]
      have : b = 0 := by omega
      subst this
      refine ⟨some (.int 0), none, gcdU0.trans ?_⟩
      simp [Int.gcd]
    · have := gcdC_loop (h := h) 1000 (a.natAbs : Int) (b.natAbs : Int) (rngD 0 2000) none none (by omega) (by omega) (by
        have := log2_lt (n := b.natAbs) (k := k + 1) (Nat.lt_of_lt_of_le hb (Nat.pow_le_pow_right (by decide) (by omega))) (by omega)
        unfold steps
        simp only [Int.natAbs_natCast]
        omega) (by rw [Zc.rngD_length]; decide)
      rw [show Int.gcd (a.natAbs : Int) (b.natAbs : Int) = Int.gcd a b by simp [Int.gcd]] at this
      exact this
  obtain ⟨x', y', key⟩ := key
  unfold gcdC at key
  simp only [F__law_gcd_2, M__law_gcd_2, defM, seqM_eq, setM_eq, callM_eq, aconsM_eq, anilM_eq, varM_eq, constM_eq, List.map, List.length, List.cons_append, List.nil_append, List.append, List.replicate, List.getElem?_cons_zero, List.getElem?_cons_succ, R.bindG_ok, absF_int, ea, eb, List.set, forM_eq, rngI1_eq]
  rw [if_pos (rng_of (by decide) (by decide))]
  simp only [R.bindG_ok]
  rw [show (2000 : Int).toNat = 2000 from rfl, key]
  simp
section
variable {h : IH} {n d : Int} {a b : Rat} {k l : Nat}
theorem ev_law_ratio_2 (hd : 0 < d) (hs : Bit k d) (hk : k ≤ 900 := by decide) (hk0 : 0 < k := by decide) : F__law_ratio_2 [.int n, .int d] h = .ok (dr (Rat.divInt n d)) h := by
  have g0 := gcd_pos (n := n) (d := d) (by omega)
  have gB : Bit k (Int.gcd n d : Int) := hs.le (by
    have : Int.gcd n d ≤ d.natAbs := Nat.le_of_dvd (by omega) (Nat.gcd_dvd_right ..)
    simpa using this)
  have eg := ev_law_gcd_2 (a := n) (b := d) (h := h) hs (by omega)
  have e1 := fun x h => fdivM_pos (x := x) (h := h) g0 gB (by omega) hk0
  simp [F__law_ratio_2, M__law_ratio_2, defM, eg, tupM_eq, e1]
  show D.tup [D.int (red n d).1, D.int (red n d).2] = _
  rw [red_divInt hd] <;> rfl
theorem ev_law_plus_2 (ha : RB k a) (hb : RB l b) (hk : k + l ≤ 900 := by decide) (h0 : 0 < k := by decide) (h1 : 0 < l := by decide) : F__law_plus_2 [dr a, dr b] h = .ok (dr (a + b)) h := by
  have m1 := fun h => mulM_int (h := h) (small_of ha.n hb.d (by omega) h0 h1)
  have m2 := fun h => mulM_int (h := h) (small_of hb.n ha.d (by omega) h1 h0)
  have m3 := fun h => mulM_int (h := h) (small_of ha.d hb.d (by omega) h0 h1)
  have e := fun h => ev_law_ratio_2 (h := h) (n := a.num * b.den + b.num * a.den) (d := (a.den : Int) * b.den) (Int.mul_pos den_pos' den_pos') (ha.d.mul hb.d) (by omega) (by omega)
  rw [← add_is] at e
  simp [F__law_plus_2, M__law_plus_2, defM, m1, m2, m3, e]
theorem ev_law_times_2 (ha : RB k a) (hb : RB l b) (hk : k + l ≤ 900 := by decide) (h0 : 0 < k := by decide) (h1 : 0 < l := by decide) : F__law_times_2 [dr a, dr b] h = .ok (dr (a * b)) h := by
  have m1 := fun h => mulM_int (h := h) (small_of ha.n hb.n (by omega) h0 h1)
  have m3 := fun h => mulM_int (h := h) (small_of ha.d hb.d (by omega) h0 h1)
  have e := fun h => ev_law_ratio_2 (h := h) (n := a.num * b.num) (d := (a.den : Int) * b.den) (Int.mul_pos den_pos' den_pos') (ha.d.mul hb.d) (by omega) (by omega)
  rw [← mul_is] at e
  simp [F__law_times_2, M__law_times_2, defM, m1, m3, e]
end
/-! ### the stream of a law: it stands at 1, its cells at 0 -/
def St (n : Nat) (h : IH) : Prop := ∃ (ns : List Int) (c k : Int), h[1]? = some (.lst [.ref 0, .int c, .int k]) ∧ h[0]? = some (.lst (ns.map .int)) ∧ 0 ≤ c ∧ 0 ≤ k ∧ k ≤ n
theorem St.lt {n : Nat} {h : IH} (w : St n h) : 2 ≤ h.length := by
  obtain ⟨ns, c, k, h1, _⟩ := w
  exact (List.getElem?_eq_some_iff.mp h1).1
theorem St.mono {n m : Nat} {h : IH} (w : St n h) (c : n ≤ m) : St m h := by
  obtain ⟨ns, c', k, h1, h2, h4, h5, h6⟩ := w
  exact ⟨ns, c', k, h1, h2, h4, h5, by omega⟩
theorem St.of {n : Nat} {h h' : IH} (w : St n h) (e0 : h'[0]? = h[0]?) (e1 : h'[1]? = h[1]?) : St n h' := by
  obtain ⟨ns, c', k, h1, h2, h3⟩ := w
  exact ⟨ns, c', k, e1.trans h1, e0.trans h2, h3⟩
theorem St.app {n : Nat} {h g : IH} (w : St n h) : St n (h ++ g) :=
  w.of (List.getElem?_append_left (by have := w.lt; omega)) (List.getElem?_append_left (by have := w.lt; omega))
theorem St.set {n i : Nat} {h : IH} {o : IO} (w : St n h) (hi : 2 ≤ i) : St n (h.set i o) :=
  w.of (List.getElem?_set_ne (by omega)) (List.getElem?_set_ne (by omega))
/-- from h to h': the stream goes on, what stood stands -/
structure Gw (n : Nat) (h h' : IH) : Prop where
  st : St n h'
  len : h.length ≤ h'.length
  keep : ∀ i, 2 ≤ i → i < h.length → h'[i]? = h[i]?
theorem Gw.refl {n : Nat} {h : IH} (w : St n h) : Gw n h h := ⟨w, Nat.le_refl _, fun _ _ _ => rfl⟩
theorem Gw.trans {n m : Nat} {h h' h'' : IH} (w : Gw n h h') (v : Gw m h' h'') : Gw m h h'' := ⟨v.st, Nat.le_trans w.len v.len, fun i h2 hi => (v.keep i h2 (Nat.lt_of_lt_of_le hi w.len)).trans (w.keep i h2 hi)⟩
theorem Gw.mono {n m : Nat} {h h' : IH} (w : Gw n h h') (c : n ≤ m) : Gw m h h' := ⟨w.st.mono c, w.len, w.keep⟩
theorem Gw.get {n : Nat} {h h' : IH} (w : Gw n h h') {i : Nat} {o : IO} (e : h[i]? = some o) (h2 : 2 ≤ i) : h'[i]? = some o := (w.keep i h2 (List.getElem?_eq_some_iff.mp e).1).trans e
theorem Gw.app {n : Nat} {h g : IH} (w : St n h) : Gw n h (h ++ g) := ⟨w.app, by simp, fun i _ hi => List.getElem?_append_left hi⟩
theorem Gw.set {n i : Nat} {h h' : IH} {o : IO} (w : Gw n h h') (hi : h.length ≤ i) (h2 : 2 ≤ i) : Gw n h (h'.set i o) :=
  ⟨w.st.set h2, by rw [List.length_set]; exact w.len, fun j j2 hj => by rw [List.getElem?_set_ne (by omega)]; exact w.keep j j2 hj⟩
theorem trunc_gw {h h' : IH} {d : D} {n m : Nat} (w0 : St n h) (hn : n ≤ m) (w : Gw m h h') : ∃ h'', trunc h (.ok d h') = .ok d h'' ∧ Gw m h h'' := by
  rw [trunc_ok]
  split
  · exact ⟨h, rfl, .refl (w0.mono hn)⟩
  · exact ⟨h', rfl, w⟩
/-- a draw -/
theorem ev_draw {n : Nat} {h : IH} {m : Nat} (w : St n h) (hn : n ≤ 1000000000) (hm : 0 < m) (hb : m < 2 ^ 20) :
    ∃ (d : Nat) (h' : IH), F__law_next [.ref 1, .int (m : Int)] h = .ok (iD d) h' ∧ d < m ∧ Gw (n + 1) h h' ∧ h'.length = h.length := by
  obtain ⟨ns, c, k, h1, h2, hc, hk, hkn⟩ := w
  have bm : Bit 20 (m : Int) := bit_nat hb
  have hm' : (0 : Int) < (m : Int) := by omega
  have fin : ∀ (h' : IH) (c' k' : Int) (z u : Option D), h'[1]? = some (.lst [.ref 0, .int c', .int k']) → h'.length = h.length → (∀ i, i ≠ 1 → h'[i]? = h[i]?) → 0 ≤ c' → 0 ≤ k' → k' ≤ ((n + 1 : Nat) : Int) →
      nextA [some (.ref 1), some (.int (m : Int)), none, none, none] h = .nx [some (.ref 1), some (.int (m : Int)), none, z, u] h' →
      ∃ (d : Nat) (h' : IH), F__law_next [.ref 1, .int (m : Int)] h = .ok (iD d) h' ∧ d < m ∧ Gw (n + 1) h h' ∧ h'.length = h.length := fun h' c' k' z u g1 gl gk gc gk0 gkn ga => by
    have e := nextB_ev (x := none) (y := z) (z := u) g1 hm' bm (by decide) (by decide)
    have d0 := Int.emod_nonneg c' (b := (m : Int)) (by omega)
    have d1 := Int.emod_lt_of_pos c' hm'
    refine ⟨(c' % (m : Int)).toNat, h'.set 1 (.lst [.ref 0, .int (c' / m), .int k']), ?_, by omega, ⟨⟨ns, c' / m, k', set_get g1, ?_, Int.ediv_nonneg gc (by omega), gk0, gkn⟩, by rw [List.length_set, gl]; exact Nat.le_refl _, fun i hi _ => ?_⟩, by rw [List.length_set, gl]⟩
    · unfold F__law_next defM
      rw [next_is, seqM_eq]
      simp only [List.map, List.length, List.cons_append, List.nil_append, List.append, List.replicate]
      rw [ga]
      dsimp only
      rw [e]
      have ed : iD (c' % (m : Int)).toNat = .int (c' % (m : Int)) := by unfold iD; rw [Int.toNat_of_nonneg d0]
      rw [ed]
      exact trunc_len (by rw [List.length_set, gl])
    · rw [List.getElem?_set_ne (by decide), gk 0 (by decide)]; exact h2
    · rw [List.getElem?_set_ne (by omega), gk i (by omega)]
  by_cases c0 : c = 0
  · subst c0
    obtain ⟨c', z', u', h3, h4⟩ := nextA_yes (x := some (.int (m : Int))) (y := none) (z := none) (u := none) h1 h2 (by decide) hk (by omega)
    exact fin _ c' (k + 1) z' u' (set_get h1) (List.length_set ..) (fun i hi => List.getElem?_set_ne (Ne.symm hi)) h3 (by omega) (by omega) h4
  · exact fin h c k none none h1 rfl (fun _ _ => rfl) hc hk (by omega) (nextA_no h1 c0)
theorem st0 {ds : List Int} : St 0 [.lst (ds.map .int), .lst [.ref 0, .int 0, .int 0]] := ⟨ds, 0, 0, rfl, rfl, by decide, by decide, by decide⟩
end Zc
/-! G1C: comprehensions and walks that draw. -/
namespace Zc
open PySem L2 Z Q
/-- side by side -/
inductive Al {α β : Type} (P : β → α → Prop) : List β → List α → Prop where
  | nil : Al P [] []
  | cons {b : β} {a : α} {bs : List β} {as : List α} : P b a → Al P bs as → Al P (b :: bs) (a :: as)
theorem Al.length {α β : Type} {P : β → α → Prop} {bs : List β} {as : List α} (w : Al P bs as) : as.length = bs.length := by
  induction w with
  | nil => rfl
  | cons _ _ ih => simp [ih]
theorem Al.all {α β : Type} {P : β → α → Prop} {Q : α → Prop} (f : ∀ b a, P b a → Q a) {bs : List β} {as : List α} (w : Al P bs as) : ∀ a ∈ as, Q a := by
  induction w with
  | nil => intro a h; cases h
  | cons p _ ih =>
    intro a h
    rcases List.mem_cons.mp h with rfl | h
    · exact f _ _ p
    · exact ih a h
theorem Al.imp {α β : Type} {P Q : β → α → Prop} {bs : List β} {as : List α} (w : Al P bs as) (f : ∀ b ∈ bs, ∀ a, P b a → Q b a) : Al Q bs as := by
  induction w with
  | nil => exact .nil
  | cons p _ ih => exact .cons (f _ List.mem_cons_self _ p) (ih fun b hb => f b (List.mem_cons_of_mem _ hb))
theorem Al.get {α β : Type} {P : β → α → Prop} {bs : List β} {as : List α} (w : Al P bs as) : ∀ {i : Nat} {a : α}, as[i]? = some a → ∃ b, bs[i]? = some b ∧ P b a := by
  induction w with
  | nil => intro i a h; cases h
  | cons p _ ih =>
    intro i a h
    cases i with
    | zero => cases h; exact ⟨_, rfl, p⟩
    | succ i => exact ih h
theorem Al.snoc {α β : Type} {P : β → α → Prop} {bs : List β} {as : List α} {b : β} {a : α} (w : Al P bs as) (p : P b a) : Al P (bs ++ [b]) (as ++ [a]) := by
  induction w with
  | nil => exact .cons p .nil
  | cons q _ ih => exact .cons q ih
/-- the most draws -/
def NM : Nat := 1000000000
section
variable {α β : Type} {f : β → D} {r : α → D} {P : β → α → Prop} {g : MG} {me : ME} {env : Ev}
theorem lcS_gw {h0 : IH} {c : Nat} : ∀ (bs : List β) (n : Nat) (h : IH), n + c * bs.length ≤ NM → Gw n h0 h →
    (∀ b ∈ bs, ∀ m h, Gw m h0 h → m + c ≤ NM → ∃ e a h', g (f b) env = some e ∧ me e h = .ok (r a) h' ∧ P b a ∧ Gw (m + c) h h') →
    ∃ as h', lcS g yesM me env (bs.map f) h = .ok (as.map r) h' ∧ Al P bs as ∧ Gw (n + c * bs.length) h0 h'
  | [], n, h, hn, w, H => ⟨[], h, rfl, .nil, by simpa using w⟩
  | b :: bs, n, h, hn, w, H => by
    have el : c * (b :: bs).length = c + c * bs.length := by rw [List.length_cons, Nat.mul_add]; omega
    obtain ⟨e, a, h1, e1, e2, p, w1⟩ := H b List.mem_cons_self n h w (by omega)
    obtain ⟨as, h2, e3, q, w2⟩ := lcS_gw bs (n + c) h1 (by omega) (w.trans w1) fun b hb => H b (List.mem_cons_of_mem _ hb)
    refine ⟨a :: as, h2, ?_, .cons p q, by rw [el, ← Nat.add_assoc]; exact w2⟩
    show (match g (f b) env with
      | none => R.stuck
      | some e => (yesM e h).bindG (fun _ _ => .stuck) .stuck fun b h => if b = true then (me e h).bindG (fun _ _ => .stuck) .stuck fun y h => (lcS g yesM me env (bs.map f) h).bind fun ys h => .ok (y :: ys) h else lcS g yesM me env (bs.map f) h) = _
    rw [e1]
    show (me e h).bindG (fun _ _ => .stuck) .stuck (fun y h => (lcS g yesM me env (bs.map f) h).bind fun ys h => .ok (y :: ys) h) = _
    rw [e2]
    show (lcS g yesM me env (bs.map f) h1).bind (fun ys h => .ok (r a :: ys) h) = _
    rw [e3]
    rfl
/-- a comprehension over a list that stays at k -/
theorem lcV_gw {h0 : IH} {c k : Nat} {bs : List β} (hk : h0[k]? = some (.lst (bs.map f))) (k2 : 2 ≤ k) (H : ∀ b ∈ bs, ∀ m h, Gw m h0 h → m + c ≤ NM → ∃ e a h', g (f b) env = some e ∧ me e h = .ok (r a) h' ∧ P b a ∧ Gw (m + c) h h') :
    ∀ (l fuel n : Nat) (h : IH), bs.length - l < fuel → l ≤ bs.length → n + c * (bs.length - l) ≤ NM → Gw n h0 h →
    ∃ as h', lcV g yesM me env (viewL k) fuel l h = .ok (as.map r) h' ∧ Al P (bs.drop l) as ∧ Gw (n + c * (bs.length - l)) h0 h'
  | l, 0, n, h, hf, _, _, _ => by omega
  | l, fuel + 1, n, h, hf, hl, hn, w => by
    have view : viewL k h = some (bs.map f) := viewL_eq (w.get hk k2)
    by_cases c0 : l = bs.length
    · subst c0
      refine ⟨[], h, ?_, by rw [List.drop_length]; exact .nil, by simpa using w⟩
      show (match viewL k h with
        | none => R.stuck
        | some ds => match ds[bs.length]? with
          | none => .ok [] h
          | some d => _) = _
      rw [view]
      dsimp only
      rw [List.getElem?_eq_none (by simp)] <;> rfl
    · have hl' : l < bs.length := by omega
      obtain ⟨e, a, h1, e1, e2, p, w1⟩ := H bs[l] (List.getElem_mem hl') n h w (by
        have : c * 1 ≤ c * (bs.length - l) := Nat.mul_le_mul_left _ (by omega)
        omega)
      have em : c * (bs.length - l) = c + c * (bs.length - (l + 1)) := by
        rw [show bs.length - l = (bs.length - (l + 1)) + 1 by omega, Nat.mul_add]
        omega
      obtain ⟨as, h2, e3, q, w2⟩ := lcV_gw hk k2 H (l + 1) fuel (n + c) h1 (by omega) (by omega) (by omega) (w.trans w1)
      refine ⟨a :: as, h2, ?_, by rw [List.drop_eq_getElem_cons hl']; exact .cons p q, by rw [em, ← Nat.add_assoc]; exact w2⟩
      show (match viewL k h with
        | none => R.stuck
        | some ds => match ds[l]? with
          | none => .ok [] h
          | some d => match g d env with
            | none => .stuck
            | some e => (yesM e h).bindG (fun _ _ => .stuck) .stuck fun b h => if b = true then (me e h).bindG (fun _ _ => .stuck) .stuck fun y h => (lcV g yesM me env (viewL k) fuel (l + 1) h).bind fun ys h => .ok (y :: ys) h else lcV g yesM me env (viewL k) fuel (l + 1) h) = _
      rw [view]
      dsimp only
      rw [List.getElem?_map, List.getElem?_eq_getElem hl']
      dsimp only [Option.map]
      rw [e1]
      show (me e h).bindG (fun _ _ => .stuck) .stuck (fun y h => (lcV g yesM me env (viewL k) fuel (l + 1) h).bind fun ys h => .ok (y :: ys) h) = _
      rw [e2]
      show (lcV g yesM me env (viewL k) fuel (l + 1) h1).bind (fun ys h => .ok (r a :: ys) h) = _
      rw [e3]
      rfl
end
section
variable {mi : MI} {own : List Nat} {g : MG} {me : ME} {env : Ev} {h h1 h2 : IH} {ds ys : List D}
theorem lcM_snap (e1 : mi env h = .ok (.snap ds) h1) (hl : ds.length ≤ MOST) (e2 : lcS g yesM me (wipeE env own) ds h1 = .ok ys h2) : lcM mi own g yesM me env h = .ok (.ref h2.length) (h2 ++ [.lst ys]) := by
  unfold lcM
  rw [e1]
  simp only [R.bind, R.bindG_ok, hl, if_true, e2]
  rfl
theorem lcM_live {v : IH → Option (List D)} (e1 : mi env h = .ok (.live v) h1) (e2 : lcV g yesM me (wipeE env own) v MOST 0 h1 = .ok ys h2) : lcM mi own g yesM me env h = .ok (.ref h2.length) (h2 ++ [.lst ys]) := by
  unfold lcM
  rw [e1]
  simp only [R.bind, R.bindG_ok, e2]
  rfl
end
theorem rngD_map {n : Nat} : rngD 0 n = (List.range n).map iD := by
  unfold rngD
  rw [List.range_eq_range']
  refine List.ext_getElem (by simp) fun i _ _ => ?_
  simp [iD]
/-- a draw, the bound written out -/
theorem ev_dr {n : Nat} {h : IH} {k : Int} (w : St n h) (hn : n + 1 ≤ NM) (h0 : 0 < k := by decide) (hb : k < 2 ^ 20 := by decide) :
    ∃ (d : Nat) (h' : IH), F__law_next [.ref 1, .int k] h = .ok (.int (d : Int)) h' ∧ (d : Int) < k ∧ Gw (n + 1) h h' ∧ h'.length = h.length := by
  obtain ⟨m, rfl⟩ := Int.eq_ofNat_of_zero_le (Int.le_of_lt h0)
  unfold NM at hn
  obtain ⟨d, h', e, c, w1, e2⟩ := ev_draw (m := m) w (by omega) (by omega) (by exact_mod_cast hb)
  exact ⟨d, h', e, by exact_mod_cast c, w1, e2⟩
/-- a comprehension over a range that draws once for each -/
theorem lc_draws {n l : Nat} {h h1 : IH} {ms : MA} {own : List Nat} {i : Nat} {me : ME} {env : Ev} {many : Nat} (w : St n h1) (hn : n + l ≤ NM) (l0 : l ≤ 1000) (e1 : ms env h = .ok [.int (l : Int)] h1) (m0 : 0 < many) (mb : many < 2 ^ 20)
    (H : ∀ k, ∀ h, me ((wipeE env own).set i (some (iD k))) h = F__law_next [.ref 1, .int (many : Int)] h) :
    ∃ (ps : List Nat) (h' : IH), lcM (rngI1 ms) own (gnameM i) yesM me env h = .ok (.ref h'.length) (h' ++ [.lst (ps.map iD)]) ∧ ps.length = l ∧ (∀ p ∈ ps, p < many) ∧ Gw (n + l) h1 h' := by
  have hr : rngI1 ms env h = .ok (.snap ((List.range l).map iD)) h1 := by
    rw [← rngD_map]
    exact rngI1_int e1 (by omega) (by omega) (by omega)
  obtain ⟨ps, h', e2, al, w2⟩ := lcS_gw (f := iD) (r := iD) (P := fun _ p => p < many) (g := gnameM i) (me := me) (env := wipeE env own) (h0 := h1) (c := 1) (List.range l) n h1 (by simpa using hn) (.refl w) (by
    intro b _ m h w hm
    obtain ⟨d, h', e, c, w1, _⟩ := ev_draw (m := many) w.st (by unfold NM at hm; omega) m0 mb
    exact ⟨_, d, h', rfl, by rw [H]; exact e, c, w1⟩)
  refine ⟨ps, h', lcM_snap hr (by unfold MOST; simp; omega) e2, ?_, Al.all (Q := fun p => p < many) (fun _ _ c => c) al, by simpa using w2⟩
  have := al.length
  simpa using this
/-- appending to a list that stands -/
theorem append_ref {h : IH} {n : Nat} {xs : List D} {d : D} (e : h[n]? = some (.lst xs)) (hl : xs.length < 16777216) : appendF (.ref n) [d] h = .ok .non (h.set n (.lst (xs ++ [d]))) := by
  unfold appendF
  simp [e, hl]
theorem methM_ref {h h1 h2 : IH} {n : Nat} {xs : List D} {ds : List D} {env : Ev} {mo : ME} {ms : MA} {m : MMt} (e0 : mo env h = .ok (.ref n) h1) (e : h1[n]? = some (.lst xs)) (e2 : ms env h1 = .ok ds h2) : methM m mo ms env h = m (.ref n) ds h2 := by
  unfold methM
  rw [e0]
  simp only [R.bindG_ok, lisOf_ref e, e2]
theorem tupleF_ref {h : IH} {n : Nat} {xs : List D} (e : h[n]? = some (.lst xs)) : tupleF [.ref n] h = .ok (.tup xs) h := by unfold tupleF; simp [e]
theorem tupleF_new {h : IH} {xs : List D} : tupleF [.ref h.length] (h ++ [.lst xs]) = .ok (.tup xs) (h ++ [.lst xs]) := tupleF_ref (by simp)
theorem truB_ref {h : IH} {n : Nat} {xs : List D} (e : h[n]? = some (.lst xs)) : truB h (.ref n) = some (!xs.isEmpty) := by unfold truB; simp [e]
theorem lc_same {h : IH} {ms : MA} {own : List Nat} {i l : Nat} {me : ME} {env : Ev} {d : D} (l0 : l ≤ 1000) (e1 : ms env h = .ok [.int (l : Int)] h) (H : ∀ k, me ((wipeE env own).set i (some (iD k))) h = .ok d h) :
    lcM (rngI1 ms) own (gnameM i) yesM me env h = .ok (.ref h.length) (h ++ [.lst (List.replicate l d)]) := by
  have hr : rngI1 ms env h = .ok (.snap ((List.range l).map iD)) h := by
    rw [← rngD_map]
    exact rngI1_int e1 (by omega) (by omega) (by omega)
  have e2 := lcS_map (h := h) (f := iD) (r := fun _ => d) (g := gnameM i) (me := me) (env := wipeE env own) (List.range l) fun a _ => ⟨_, rfl, H a⟩
  have : (List.range l).map (fun _ => d) = List.replicate l d := List.eq_replicate_iff.mpr ⟨by simp, fun b hb => by obtain ⟨_, _, rfl⟩ := List.mem_map.mp hb; rfl⟩
  rw [this] at e2
  exact lcM_snap hr (by unfold MOST; simp; omega) e2
end Zc
/-! G1P: points drawn. -/
namespace Zc
open PySem L2 Z Q
theorem sum_set : ∀ (ws : List Nat) (d : Nat) (h : d < ws.length), (ws.set d (ws[d] + 1)).sum = ws.sum + 1
  | w :: ws, 0, _ => by simp; omega
  | w :: ws, d + 1, h => by
    have := sum_set ws d (by simpa using h)
    simp only [List.set_cons_succ, List.sum_cons, List.getElem_cons_succ, this]
    omega
theorem sumF_at {h : IH} {q : Nat} {ws : List Nat} (e : h[q]? = some (.lst (ws.map iD))) : sumF [.ref q] h = .ok (.int (ws.sum : Nat)) h := by
  have e2 : its' (ws.map iD) = some (ws.map fun (n : Nat) => (n : Int)) := its_map' (r := fun n : Nat => (n : Int)) ws
  unfold sumF
  simp [lisOf_ref e, e2, ints_sum]
theorem okB_fin : ∀ w : Fin 10, ∀ t : Fin 10, 0 < w.val → 0 < t.val → 0 < (Rat.divInt w.val t.val).num ∧ (Rat.divInt w.val t.val).num ≤ 60 ∧ (Rat.divInt w.val t.val).den ≤ 60 := by decide +kernel
theorem sum_al {T many : Nat} {ws : List Nat} {bs : List (Rat × Nat)} (h : Al (fun (w : Nat) (b : Rat × Nat) => b.1 = Rat.divInt (w : Int) (T : Int) ∧ b.2 < many) ws bs) : ∀ t : Rat, bs.foldl (fun t b => t + b.1) t = t + (ws.sum : Rat) / (T : Rat) := by
  induction h with
  | nil => intro t; simp; grind
  | @cons w b ws bs p q ih =>
    intro t
    rw [List.foldl_cons, ih, p.1, Rat.divInt_eq_div]
    have : (((w :: ws).sum : Nat) : Rat) = (w : Rat) + (ws.sum : Rat) := by rw [List.sum_cons]; push_cast; rfl
    rw [this]
    simp only [Rat.intCast_natCast]
    grind
theorem le_sum {w : Nat} : ∀ {ws : List Nat}, w ∈ ws → w ≤ ws.sum
  | a :: ws, h => by
    rw [List.sum_cons]
    rcases List.mem_cons.mp h with rfl | q
    · omega
    · have := le_sum q; omega
noncomputable def brB : MS := seqM (setM 6 (callM F__law_next (aconsM (varM 0) (aconsM (varM 2) anilM))))
  (putM setL (varM 3) (varM 6) (binM addM (binM ixM (varM 3) (varM 6)) (constM (.int 1))))
def BrI (n q c : Nat) (h0 : IH) (D1 : D) (i : Nat) (e : Ev) (h : IH) : Prop := ∃ (ws : List Nat) (x y : Option D), e = [some (.ref 1), some D1, some (.int (c : Int)), some (.ref q), x, none, y, none] ∧ h[q]? = some (.lst (ws.map iD)) ∧ ws.length = c ∧ (∀ w ∈ ws, 1 ≤ w) ∧ ws.sum = c + i ∧ Gw (n + i) h0 h
theorem br_step {n q c : Nat} {h0 : IH} {D1 : D} (hD : ∀ h, okV h D1 = .ok D1 h) (c0 : 0 < c) (c4 : c ≤ 4) (hn : n + 6 ≤ NM) (hq : h0.length ≤ q) (q2 : 2 ≤ q) {i : Nat} {e : Ev} {h : IH} {d : D} (w : BrI n q c h0 D1 i e h) (hi : i < 5) :
    ∃ e2 h2, brB (e.set 4 (some d)) h = .nx e2 h2 ∧ BrI n q c h0 D1 (i + 1) e2 h2 := by
  obtain ⟨ws, x, y, rfl, hw, wl, w1, wS, gw⟩ := w
  obtain ⟨a, h1, e1, a1, g1, l1⟩ := ev_dr (k := (c : Int)) gw.st (by omega) (by omega) (by omega)
  have ha : a < ws.length := by omega
  have hw1 : h1[q]? = some (.lst (ws.map iD)) := g1.get hw q2
  have ha' : (ws.map iD)[a]? = some (.int (ws[a] : Int)) := by simp [ha, iD]
  have s1 := setL_ref (x := (a : Int)) (d := .int ((ws[a] : Int) + 1)) hw1
  have ixn : ixN (ws.map iD).length (a : Int) = some a := by
    unfold ixN
    rw [List.length_map, if_pos (by omega), if_pos (by omega)] <;> simp
  rw [ixn] at s1
  have ix := fun x => ixM_ref (x := x) hw1
  refine ⟨[some (.ref 1), some D1, some (.int (c : Int)), some (.ref q), some d, none, some (.int (a : Int)), none], h1.set q (.lst ((ws.set a (ws[a] + 1)).map iD)), ?_, ws.set a (ws[a] + 1), some d, some (.int (a : Int)), rfl, ?_, by simpa using wl, ?_, by rw [sum_set ws a ha, wS]; omega, ?_⟩
  · have em : (ws.map iD).set a (.int ((ws[a] : Int) + 1)) = (ws.set a (ws[a] + 1)).map iD := by
      rw [List.map_set]
      simp [iD]
    rw [← em]
    simp [brB, hD, e1, ix, atI_of ha', s1]
  · simp [(List.getElem?_eq_some_iff.mp hw1).1]
  · intro w hw
    rcases List.mem_or_eq_of_mem_set hw with h | rfl
    · exact w1 w h
    · omega
  · have := (gw.trans g1).set (o := .lst ((ws.set a (ws[a] + 1)).map iD)) hq q2
    exact this
theorem ev_law_branches {n many : Nat} {h : IH} (w : St n h) (hn : n + 12 ≤ NM) (m0 : 0 < many) (mb : many < 2 ^ 20) : ∃ (bs : List (Rat × Nat)) (h' : IH), F__law_branches [.ref 1, iD many] h = .ok (.tup (bs.map dB)) h' ∧ (1 ≤ bs.length ∧ bs.length ≤ 4 ∧ (∀ b ∈ bs, OkB many b) ∧ sumR bs = 1) ∧ Gw (n + 12) h h' := by
  obtain ⟨d1, h1, e1, c1, g1, l1⟩ := ev_dr (k := 3) w (by omega)
  obtain ⟨d2, h2, e2, c2, g2, l2⟩ := ev_dr (k := 8) g1.st (by omega)
  obtain ⟨c, ec, c0, c4⟩ : ∃ c : Nat, (if (d2 : Int) = 1 then (4 : Int) else 1 + (d1 : Int)) = (c : Int) ∧ 0 < c ∧ c ≤ 4 := by
    by_cases z : (d2 : Int) = 1
    · exact ⟨4, by rw [if_pos z]; rfl, by omega, by omega⟩
    · exact ⟨1 + d1, by rw [if_neg z]; push_cast; rfl, by omega, by omega⟩
  have q2 : 2 ≤ h2.length := g2.st.lt
  have G2 : Gw (n + 2) h h2 := g1.trans g2
  -- the weights
  have w3 := lc_same (h := h2) (ms := aconsM (varM 2) anilM) (own := [4]) (i := 4) (l := c) (me := constM (.int 1)) (env := [some (.ref 1), some (iD many), some (.int (c : Int)), none, none, none, none, none]) (d := .int 1) (by omega) (by simp) (fun k => by simp)
  have G3 : Gw (n + 2) h (h2 ++ [.lst (List.replicate c (.int 1))]) := G2.trans (.app g2.st)
  obtain ⟨d3, h3, e3, c3, g3, l3⟩ := ev_dr (k := 6) G3.st (by omega)
  have rep : List.replicate c (D.int 1) = (List.replicate c 1).map iD := by simp [iD]
  have i0 : BrI (n + 3) h2.length c h (iD many) 0 [some (.ref 1), some (iD many), some (.int (c : Int)), some (.ref h2.length), none, none, none, none] h3 :=
    ⟨List.replicate c 1, none, none, rfl, by rw [← rep]; exact g3.get (by simp) q2, by simp, by simp, by simp, G3.trans g3⟩
  obtain ⟨e', h4, e4, i4⟩ := forS_inv (ds := rngD 0 d3) (g := gnameM 4) (mb := brB) (BrI (n + 3) h2.length c h (iD many)) (by
    intro i e h d wi hd
    have hi := (List.getElem?_eq_some_iff.mp hd).1
    rw [Zc.rngD_length] at hi
    obtain ⟨e2, h2, r1, r2⟩ := br_step (d := d) (fun h => okV_iD) c0 c4 (by omega) G2.len q2 wi (by omega)
    exact ⟨_, rfl, e2, h2, .inl r1, r2⟩) d3 0 _ h3 (by rw [Zc.rngD_length]; omega) (by omega) i0
  rw [List.drop_zero] at e4
  obtain ⟨ws, x, y, rfl, hw, wl, w1, wS, G4⟩ := i4
  rw [Zc.rngD_length] at wS G4
  have eS := sumF_at hw
  have T0 : 0 < ws.sum := by omega
  have T9 : ws.sum ≤ 9 := by omega
  have wle : ∀ w ∈ ws, w ≤ ws.sum := fun w hw => le_sum hw
  -- the branches
  obtain ⟨bs, h5, e5, al, g5⟩ := lcV_gw (f := iD) (r := dB) (P := fun w b => b.1 = Rat.divInt (w : Int) ((ws.sum : Nat) : Int) ∧ b.2 < many) (g := gnameM 7) (me := tupM (aconsM (callM F__law_ratio_2 (aconsM (varM 7) (aconsM (varM 5) anilM))) (aconsM (callM F__law_next (aconsM (varM 0) (aconsM (varM 1) anilM))) anilM)))
    (env := [some (.ref 1), some (iD many), some (.int (c : Int)), some (.ref h2.length), x, some (.int (ws.sum : Nat)), y, none]) (c := 1) hw q2 (by
      intro b hb m h gm hm
      obtain ⟨d, h', e, c, gd, _⟩ := ev_draw (m := many) gm.st (by unfold NM at hm; omega) m0 mb
      have er := fun h => ev_law_ratio_2 (h := h) (n := (b : Int)) (d := ((ws.sum : Nat) : Int)) (k := 5) (by omega) (Bit.pos (by omega) (by omega))
      refine ⟨_, (Rat.divInt (b : Int) ((ws.sum : Nat) : Int), d), h', rfl, ?_, ⟨rfl, c⟩, gd⟩
      have er' : ∀ h, F__law_ratio_2 [iD b, .int ((ws.sum : Nat) : Int)] h = _ := er
      have e' : F__law_next [.ref 1, iD many] h = _ := e
      simp [okV_iD, er', e', tupM_eq, dB]) 0 MOST (n + 3 + d3) h4 (by unfold MOST; omega) (by omega) (by omega) (.refl G4.st)
  rw [List.drop_zero] at al
  have e6 := lcM_live (mi := seqI (varM 3)) (own := [7]) (env := [some (.ref 1), some (iD many), some (.int (c : Int)), some (.ref h2.length), x, some (.int (ws.sum : Nat)), y, none]) (h := h4) (h1 := h4) (v := viewL h2.length) (by simp [srcOf_ref hw]) e5
  have G45 : Gw (n + 12) h h5 := (G4.trans g5).mono (by omega)
  have G5 : Gw (n + 12) h (h5 ++ [.lst (bs.map dB)]) := G45.trans (.app G45.st)
  obtain ⟨h', et, G⟩ := trunc_gw (d := .tup (bs.map dB)) w (by omega) G5
  refine ⟨bs, h', ?_, ⟨by rw [al.length]; omega, by rw [al.length]; omega, ?_, ?_⟩, G⟩
  · rw [← et]
    have r6 : Rng (d3 : Int) := rng_of (by omega) (by omega)
    have e4' := e4
    unfold brB at e4'
    simp [F__law_branches, M__law_branches, defM, okV_iD, e1, e2, e3]
    by_cases z : (d2 : Int) = 1
    · rw [if_pos z] at ec
      have hc : c = 4 := by omega
      subst hc
      simp [z] at *
      simp [w3, e3, r6, e4', eS, e6, tupleF_new]
    · rw [if_neg z] at ec
      simp [z, ec]
      simp [w3, e3, r6, e4', eS, e6, tupleF_new]
  · refine al.imp (Q := fun w b => OkB many b) (fun w hw b p => ?_) |>.all (Q := fun b => OkB many b) (fun _ _ p => p)
    have := okB_fin ⟨w, by have := wle w hw; omega⟩ ⟨ws.sum, by omega⟩ (w1 w hw) T0
    rw [p.1.symm] at this
    exact ⟨this.1, this.2.1, this.2.2, p.2⟩
  · unfold sumR
    rw [sum_al (T := ws.sum) al]
    have : ((ws.sum : Nat) : Rat) ≠ 0 := by
      intro z
      have : ws.sum = 0 := by exact_mod_cast z
      omega
    grind
end Zc
/-! G1V: points and procedures drawn. -/
namespace Zc
open PySem L2 Z Q
/-- a point that fits sizes -/
def OkS (szs : List (Nat × Nat)) (ex many : Nat) : Pt → Prop
  | .exit e => e < ex
  | .draw bs => 1 ≤ bs.length ∧ bs.length ≤ 4 ∧ (∀ b ∈ bs, OkB many b) ∧ sumR bs = 1
  | .choose ps => 1 ≤ ps.length ∧ ps.length ≤ 4 ∧ ∀ p ∈ ps, p < many
  | .call p ps => ∃ s, szs[p]? = some s ∧ ps.length = s.1 ∧ ∀ p ∈ ps, p < many
  | .reward a p => 0 ≤ a.num ∧ a.num ≤ 1000 ∧ a.den ≤ 12 ∧ p < many
  | _ => True
def dC (c : Nat × Nat) : D := .tup [iD c.1, iD c.2]
theorem band_fin : ∀ d : Fin 10, Builtin.bitAnd (d.val : Int) 1 = 0 ∨ Builtin.bitAnd (d.val : Int) 1 = 1 := by decide +kernel
theorem okR_fin : ∀ a : Fin 12, ∀ b : Fin 5, 0 < b.val → 0 ≤ (Rat.divInt a.val b.val).num ∧ (Rat.divInt a.val b.val).num ≤ 1000 ∧ (Rat.divInt a.val b.val).den ≤ 12 := by decide +kernel
theorem bandM_int {i j : Int} {h : IH} : bandM (.int i) (.int j) h = .ok (.int (Builtin.bitAnd i j)) h := rfl
theorem ev_law_end {n ex : Nat} {h : IH} (w : St n h) (hn : n + 2 ≤ NM) (hx : ex ≤ 3) : ∃ (x : Pt) (h' : IH), F__law_end [.ref 1, iD ex] h = .ok (dPt x) h' ∧ (∀ szs many, OkS szs ex many x) ∧ Gw (n + 2) h h' := by
  obtain ⟨d, h1, e1, c1, g1, l1⟩ := ev_dr (k := 6) w (by omega)
  by_cases c : 0 < ex ∧ d < 4
  · obtain ⟨a, h2, e2, c2, g2, l2⟩ := ev_dr (k := (ex : Int)) g1.st (by omega) (by omega) (by omega)
    have G : Gw (n + 2) h h2 := g1.trans g2
    refine ⟨.exit a, h2, ?_, fun _ _ => by show a < ex; omega, G⟩
    have x0 : (0 : Int) < (ex : Int) := by omega
    have d4 : (d : Int) < 4 := by omega
    have e2' : F__law_next [.ref 1, iD ex] h1 = _ := e2
    have gt : ∀ h, gtM (iD ex) (.int 0) h = .ok (.bl true) h := fun h => by unfold iD; rw [gtM_int]; simp [c.1]
    simp [F__law_end, M__law_end, defM, okV_iD, e1, gt, d4, e2', tupM_eq]
    exact trunc_len (by omega)
  · have G1 : Gw (n + 2) h h1 := g1.mono (by omega)
    have G : Gw (n + 2) h (h1 ++ [.lst [.tup [.str "reject"], .tup [.str "stop"]]]) := G1.trans (.app G1.st)
    have gt : ∀ h, gtM (iD ex) (.int 0) h = .ok (.bl (decide ((0 : Int) < (ex : Int)))) h := fun h => rfl
    have lt : ¬ ((0 : Int) < (ex : Int) ∧ (d : Int) < 4) := by omega
    have ix := ixM_ref (h := h1 ++ [IO.lst [D.tup [.str "reject"], .tup [.str "stop"]]]) (n := h1.length) (xs := [D.tup [.str "reject"], .tup [.str "stop"]]) (x := Builtin.bitAnd (d : Int) 1) (by simp)
    have fin : ∀ x : Pt, atI [D.tup [.str "reject"], .tup [.str "stop"]] (Builtin.bitAnd (d : Int) 1) = some (dPt x) → (∀ szs many, OkS szs ex many x) → ∃ (x : Pt) (h' : IH), F__law_end [.ref 1, iD ex] h = .ok (dPt x) h' ∧ (∀ szs many, OkS szs ex many x) ∧ Gw (n + 2) h h' := fun x hx ho => by
      obtain ⟨h', et, G'⟩ := trunc_gw (d := dPt x) w (by omega) G
      refine ⟨x, h', ?_, ho, G'⟩
      rw [hx] at ix
      rw [← et]
      by_cases z : (0 : Int) < (ex : Int)
      · have z2 : ¬ (d : Int) < 4 := fun q => lt ⟨z, q⟩
        have gt' : ∀ h, gtM (iD ex) (.int 0) h = .ok (.bl true) h := fun h => by rw [gt, decide_eq_true z]
        have lt' : ∀ h, ltM (.int (d : Int)) (.int 4) h = .ok (.bl false) h := fun h => by rw [ltM_int]; simp [z2]
        simp [F__law_end, M__law_end, defM, okV_iD, e1, gt', lt', -ltM_int, tupM_eq, lstM_eq, newL_eq, bandM_int, ix]
      · have gt' : ∀ h, gtM (iD ex) (.int 0) h = .ok (.bl false) h := fun h => by rw [gt, decide_eq_false z]
        simp [F__law_end, M__law_end, defM, okV_iD, e1, gt', tupM_eq, lstM_eq, newL_eq, bandM_int, ix]
    rcases band_fin ⟨d, by omega⟩ with q | q
    · exact fin .reject (by rw [show Builtin.bitAnd (d : Int) 1 = 0 from q, atI_0] <;> rfl) fun _ _ => trivial
    · exact fin .stop (by rw [show Builtin.bitAnd (d : Int) 1 = 1 from q, atI_1] <;> rfl) fun _ _ => trivial
theorem ev_law_point {szs cs : List (Nat × Nat)} {n ex many qc : Nat} {ch : Bool} {h : IH} (w : St n h) (hn : n + 14 ≤ NM) (hx : ex ≤ 3) (m0 : 0 < many) (mb : many < 2 ^ 20) (hc : h[qc]? = some (.lst (cs.map dC))) (q2 : 2 ≤ qc) (cl : cs.length ≤ 1000)
    (okc : ∀ c ∈ cs, (∃ s, szs[c.1]? = some s ∧ s.1 = c.2) ∧ c.2 ≤ 3) : ∃ (x : Pt) (h' : IH), F__law_point [.ref 1, iD ex, iD many, .ref qc, .bl ch] h = .ok (dPt x) h' ∧ OkS szs ex many x ∧ Gw (n + 14) h h' := by
  obtain ⟨d, h1, e1, c1, g1, l1⟩ := ev_dr (k := 10) w (by omega)
  have done : ∀ (x : Pt) (h2 : IH), F__law_point [.ref 1, iD ex, iD many, .ref qc, .bl ch] h = trunc h (.ok (dPt x) h2) → OkS szs ex many x → Gw (n + 14) h h2 → ∃ (x : Pt) (h' : IH), F__law_point [.ref 1, iD ex, iD many, .ref qc, .bl ch] h = .ok (dPt x) h' ∧ OkS szs ex many x ∧ Gw (n + 14) h h' := fun x h2 e o G => by
    obtain ⟨h', et, G'⟩ := trunc_gw (d := dPt x) w (by omega) G
    exact ⟨x, h', e.trans et, o, G'⟩
  have hc1 := g1.get hc q2
  have tr : ∀ h : IH, h[qc]? = some (.lst (cs.map dC)) → truB h (.ref qc) = some (!cs.isEmpty) := fun h e => by rw [truB_ref e]; simp
  by_cases d2 : (d : Int) < 2
  · obtain ⟨x, h2, e2, o, g2⟩ := ev_law_end (ex := ex) g1.st (by omega) hx
    refine done x h2 ?_ (o szs many) ((g1.trans g2).mono (by omega))
    simp [F__law_point, M__law_point, defM, okV_iD, e1, d2, e2]
  by_cases d3 : (d : Int) = 2
  · obtain ⟨a, h2, e2, c2, g2, l2⟩ := ev_dr (k := 12) g1.st (by omega)
    obtain ⟨b, h3, e3, c3, g3, l3⟩ := ev_dr (k := 4) g2.st (by omega)
    obtain ⟨p, h4, e4, c4, g4, l4⟩ := ev_dr (k := (many : Int)) g3.st (by omega) (by omega) (by omega)
    have e4' : F__law_next [.ref 1, iD many] h3 = _ := e4
    have er := fun h => ev_law_ratio_2 (h := h) (n := (a : Int)) (d := 1 + (b : Int)) (k := 5) (by omega) (Bit.pos (by omega) (by omega))
    refine done (.reward (Rat.divInt a (1 + b)) p) h4 ?_ ?_ (((g1.trans g2).trans (g3.trans g4)).mono (by omega))
    · simp [F__law_point, M__law_point, defM, okV_iD, e1, d3, e2, e3, er, e4', tupM_eq]
      rfl
    · have := okR_fin ⟨a, by omega⟩ ⟨1 + b, by omega⟩ (by show 0 < 1 + b; omega)
      have hb : ((1 + b : Nat) : Int) = 1 + (b : Int) := by push_cast; rfl
      simp only [hb] at this
      exact ⟨this.1, this.2.1, this.2.2, by omega⟩
  by_cases d5 : (d : Int) < 5 ∧ cs.isEmpty = false
  · obtain ⟨d5, ce⟩ := d5
    have cn : 0 < cs.length := by
      cases cs with
      | nil => cases ce
      | cons _ _ => simp
    obtain ⟨a, h2, e2, c2, g2, l2⟩ := ev_dr (k := (cs.length : Int)) g1.st (by omega) (by omega) (by omega)
    have ha : a < cs.length := by omega
    have hc2 := g2.get hc1 q2
    have ix : ixM (.ref qc) (.int (a : Int)) h2 = .ok (dC cs[a]) h2 := by
      rw [ixM_ref hc2, atI_of (x := dC cs[a]) (by simp [ha])]
    obtain ⟨⟨s, hs, hs1⟩, hs3⟩ := okc cs[a] (List.getElem_mem ha)
    have ln := lenF_ref hc1
    rw [List.length_map] at ln
    obtain ⟨ps, h3, e3, pl, pm, g3⟩ := lc_draws (l := cs[a].2) (h := h2) (h1 := h2) (ms := aconsM (varM 7) anilM) (own := [8]) (i := 8) (me := callM F__law_next (aconsM (varM 0) (aconsM (varM 2) anilM))) (env := [some (.ref 1), some (iD ex), some (iD many), some (.ref qc), some (.bl ch), some (.int (d : Int)), some (iD cs[a].1), some (iD cs[a].2), none]) (many := many) g2.st (by omega) (by omega) (by simp [okV_iD]; rfl) m0 mb (fun k h => by simp [wipeE, okV_iD]; rfl)
    have G3 : Gw (n + 14) h h3 := ((g1.trans g2).trans g3).mono (by omega)
    refine done (.call cs[a].1 ps) (h3 ++ [.lst (ps.map iD)]) ?_ ⟨s, hs, by rw [pl, hs1], pm⟩ (G3.trans (.app G3.st))
    have g2s : gtupM 2 (gconsM (gnameM 6) (gconsM (gnameM 7) gnilM)) (dC cs[a]) [some (.ref 1), some (iD ex), some (iD many), some (.ref qc), some (.bl ch), some (.int (d : Int)), none, none, none] = some [some (.ref 1), some (iD ex), some (iD many), some (.ref qc), some (.bl ch), some (.int (d : Int)), some (iD cs[a].1), some (iD cs[a].2), none] := by simp [dC]
    simp [F__law_point, M__law_point, defM, okV_iD, e1, d2, d3, d5, tr h1 hc1, ce, ln, e2, ix, g2s, -gtupM_eq, e3, tupleF_new, tupM_eq]
    rfl
  have t5 : ∀ b : Bool, ((d : Int) < 5 ∧ b = !cs.isEmpty) → b = false := fun b q => by
    cases z : cs.isEmpty
    · exact absurd ⟨q.1, z⟩ d5
    · rw [q.2, z]; rfl
  by_cases d8 : (d : Int) < 8 ∧ ch = true
  · obtain ⟨d8, rfl⟩ := d8
    obtain ⟨b, h2, e2, c2, g2, l2⟩ := ev_dr (k := 4) g1.st (by omega)
    obtain ⟨ps, h3, e3, pl, pm, g3⟩ := lc_draws (l := 1 + b) (h := h1) (h1 := h2) (ms := aconsM (binM addM (constM (.int 1)) (callM F__law_next (aconsM (varM 0) (aconsM (constM (.int 4)) anilM)))) anilM) (own := [8]) (i := 8) (me := callM F__law_next (aconsM (varM 0) (aconsM (varM 2) anilM))) (env := [some (.ref 1), some (iD ex), some (iD many), some (.ref qc), some (.bl true), some (.int (d : Int)), none, none, none]) (many := many) g2.st (by omega) (by omega) (by simp [e2]) m0 mb (fun k h => by simp [wipeE, okV_iD]; rfl)
    have G3 : Gw (n + 14) h h3 := ((g1.trans g2).trans g3).mono (by omega)
    refine done (.choose ps) (h3 ++ [.lst (ps.map iD)]) ?_ ⟨by omega, by omega, pm⟩ (G3.trans (.app G3.st))
    by_cases z : (d : Int) < 5
    · have ce := t5 _ ⟨z, rfl⟩
      simp [F__law_point, M__law_point, defM, okV_iD, e1, d2, d3, z, d8, tr h1 hc1, ce, e3, tupleF_new, tupM_eq]
      rfl
    · simp [F__law_point, M__law_point, defM, okV_iD, e1, d2, d3, z, d8, e3, tupleF_new, tupM_eq]
      rfl
  · obtain ⟨bs, h2, e2, o, g2⟩ := ev_law_branches (many := many) g1.st (by omega) m0 mb
    refine done (.draw bs) h2 ?_ o ((g1.trans g2).mono (by omega))
    by_cases z : (d : Int) < 5
    · have ce := t5 _ ⟨z, rfl⟩
      have cf : ch = false := by
        cases ch
        · rfl
        · exact absurd ⟨by omega, rfl⟩ d8
      subst cf
      have z8 : (d : Int) < 8 := by omega
      simp [F__law_point, M__law_point, defM, okV_iD, e1, d2, d3, z, z8, tr h1 hc1, ce, e2, tupM_eq]
      rfl
    · by_cases z8 : (d : Int) < 8
      · have cf : ch = false := by
          cases ch
          · rfl
          · exact absurd ⟨z8, rfl⟩ d8
        subst cf
        simp [F__law_point, M__law_point, defM, okV_iD, e1, d2, d3, z, z8, e2, tupM_eq]
        rfl
      · simp [F__law_point, M__law_point, defM, okV_iD, e1, d2, d3, z, z8, e2, tupM_eq]
        rfl
end Zc
/-! G1W: procedures, graphs and places drawn. -/
namespace Zc
open PySem L2 Z Q
theorem subM_iD1 {m : Nat} {h : IH} : subM (iD (m + 1)) (.int 1) h = .ok (iD m) h := by
  unfold iD
  rw [subM_int, show ((m + 1 : Nat) : Int) - 1 = (m : Int) by omega]
theorem ev_law_procedure {szs cs : List (Nat × Nat)} {n ex many qc : Nat} {ch : Bool} {h : IH} (w : St n h) (hn : n + 300 ≤ NM) (hx : ex ≤ 3) (m0 : 0 < many) (mb : many ≤ 16) (hc : h[qc]? = some (.lst (cs.map dC))) (q2 : 2 ≤ qc) (cl : cs.length ≤ 1000)
    (okc : ∀ c ∈ cs, (∃ s, szs[c.1]? = some s ∧ s.1 = c.2) ∧ c.2 ≤ 3) : ∃ (p : Pr) (h' : IH), F__law_procedure [.ref 1, iD ex, iD many, .ref qc, .bl ch] h = .ok (dP p) h' ∧ p.ex = ex ∧ p.pts.length = many ∧ (∀ x ∈ p.pts, OkS szs ex many x) ∧ Gw (n + 300) h h' := by
  obtain ⟨m, rfl⟩ : ∃ m, many = m + 1 := ⟨many - 1, by omega⟩
  have hr : rngI1 (aconsM (binM subM (varM 2) (constM (.int 1))) anilM) [some (.ref 1), some (iD ex), some (iD (m + 1)), some (.ref qc), some (.bl ch), none, none] h = .ok (.snap ((List.range m).map iD)) h := by
    rw [← rngD_map]
    refine rngI1_int (j := (m : Int)) ?_ (by omega) (by omega) (by omega)
    simp [okV_iD, subM_iD1]
    rfl
  obtain ⟨xs, h1, e1, al, g1⟩ := lcS_gw (f := iD) (r := dPt) (P := fun _ x => OkS szs ex (m + 1) x) (g := gnameM 6) (me := callM F__law_point (aconsM (varM 0) (aconsM (varM 1) (aconsM (varM 2) (aconsM (varM 3) (aconsM (varM 4) anilM))))))
    (env := [some (.ref 1), some (iD ex), some (iD (m + 1)), some (.ref qc), some (.bl ch), none, none]) (h0 := h) (c := 14) (List.range m) n h (by rw [List.length_range]; omega) (.refl w) (by
      intro b _ k h' gk hk
      obtain ⟨x, h2, e2, o, g2⟩ := ev_law_point (szs := szs) (cs := cs) (ex := ex) (many := m + 1) (qc := qc) (ch := ch) gk.st hk hx (by omega) (by omega) (gk.get hc q2) q2 cl okc
      exact ⟨[some (.ref 1), some (iD ex), some (iD (m + 1)), some (.ref qc), some (.bl ch), none, some (iD b)], x, h2, rfl, by simp [okV_iD, e2], o, g2⟩)
  rw [List.length_range] at g1
  have e2 := lcM_snap (own := [6]) (env := [some (.ref 1), some (iD ex), some (iD (m + 1)), some (.ref qc), some (.bl ch), none, none]) hr (by unfold MOST; simp; omega) e1
  have q1 : 2 ≤ h1.length := g1.st.lt
  have G1 : Gw (n + 14 * m) h (h1 ++ [.lst (xs.map dPt)]) := g1.trans (.app g1.st)
  obtain ⟨x, h3, e3, o, g3⟩ := ev_law_end (ex := ex) G1.st (by omega) hx
  have xl := al.length
  rw [List.length_range] at xl
  have hq3 : h3[h1.length]? = some (.lst (xs.map dPt)) := g3.get (by simp) q1
  have ap := append_ref (d := dPt x) hq3 (by simp [xl]; omega)
  have em : xs.map dPt ++ [dPt x] = (xs ++ [x]).map dPt := by simp
  rw [em] at ap
  have G4 : Gw (n + 300) h (h3.set h1.length (.lst ((xs ++ [x]).map dPt))) := ((G1.trans g3).mono (by omega)).set g1.len q1
  have hq4 : (h3.set h1.length (.lst ((xs ++ [x]).map dPt)))[h1.length]? = some (.lst ((xs ++ [x]).map dPt)) := by simp [(List.getElem?_eq_some_iff.mp hq3).1]
  obtain ⟨h', et, G⟩ := trunc_gw (d := dP ⟨ex, xs ++ [x]⟩) w (by omega) G4
  refine ⟨⟨ex, xs ++ [x]⟩, h', ?_, rfl, by simp [xl], ?_, G⟩
  · rw [← et]
    have mm := methM_ref (m := appendF) (mo := varM 5) (ms := aconsM (callM F__law_end (aconsM (varM 0) (aconsM (varM 1) anilM))) anilM) (env := [some (.ref 1), some (iD ex), some (iD (m + 1)), some (.ref qc), some (.bl ch), some (.ref h1.length), none]) (h := h1 ++ [.lst (xs.map dPt)]) (h1 := h1 ++ [.lst (xs.map dPt)]) (n := h1.length) (xs := xs.map dPt) (ds := [dPt x]) (h2 := h3) (by simp) (by simp) (by simp [okV_iD, e3])
    rw [ap] at mm
    simp [F__law_procedure, M__law_procedure, defM, okV_iD, e2, mm, tupleF_ref hq4, tupM_eq, -List.map_append]
    rfl
  · intro y hy
    rcases List.mem_append.mp hy with hy | hy
    · exact al.all (Q := fun x => OkS szs ex (m + 1) x) (fun _ _ p => p) y hy
    · rw [List.mem_singleton.mp hy]
      exact o _ _
/-! ### graphs -/
/-- what is drawn -/
structure DG (g : Gr) : Prop where
  ok : OkG g
  l3 : g.length ≤ 3
  ex2 : ∀ p ∈ g, p.ex ≤ 2
  p5 : ∀ p ∈ g, p.pts.length ≤ 5
def szP (p : Pr) : Nat × Nat := (p.ex, p.pts.length)
theorem sum_le {α : Type} {f : α → Nat} {k : Nat} : ∀ {xs : List α}, (∀ x ∈ xs, f x ≤ k) → (xs.map f).sum ≤ k * xs.length
  | [], _ => by simp
  | x :: xs, h => by
    have h1 := h x List.mem_cons_self
    have h2 := sum_le (xs := xs) fun y hy => h y (List.mem_cons_of_mem _ hy)
    simp only [List.map_cons, List.sum_cons, List.length_cons, Nat.mul_add]
    omega
theorem okPt_of {g : Gr} {ex many : Nat} : ∀ {x : Pt}, OkS (g.map szP) ex many x → OkPt g ex many x
  | .exit _, h => h
  | .draw _, h => h
  | .choose _, h => h
  | .call p ps, h => by
    obtain ⟨s, h1, h2, h3⟩ := h
    rw [List.getElem?_map] at h1
    cases e : g[p]? with
    | none => rw [e] at h1; cases h1
    | some q =>
      rw [e] at h1
      cases h1
      exact ⟨q, e, h2, h3⟩
  | .reward _ _, h => h
  | .reject, h => h
  | .stop, h => h
def okSz (s : Nat × Nat) : Prop := s.1 ≤ 2 ∧ 1 ≤ s.2 ∧ s.2 ≤ 5
theorem dg_of {g : Gr} (l1 : 1 ≤ g.length) (l3 : g.length ≤ 3) (sz : ∀ p ∈ g, okSz (szP p)) (pt : ∀ p ∈ g, ∀ x ∈ p.pts, OkS (g.map szP) p.ex p.pts.length x) : DG g :=
  ⟨⟨l1, by omega, fun p hp => by have := (sz p hp).1; unfold szP at this; dsimp only at this; omega, fun p hp => (sz p hp).2.1, fun p hp => by have := (sz p hp).2.2; unfold szP at this; dsimp only at this; omega,
    by have := sum_le (k := 5) (f := fun p : Pr => p.pts.length) (xs := g) fun p hp => (sz p hp).2.2; omega, fun p hp x hx => okPt_of (pt p hp x hx)⟩, l3, fun p hp => (sz p hp).1, fun p hp => (sz p hp).2.2⟩
noncomputable def szB : MS := exprM (methM appendF (varM 3) (aconsM (tupM (aconsM (callM F__law_next (aconsM (varM 0) (aconsM (constM (.int 3)) anilM))) (aconsM (binM addM (constM (.int 1)) (callM F__law_next (aconsM (varM 0) (aconsM (constM (.int 5)) anilM)))) anilM))) anilM))
theorem szs_loop {n q : Nat} {h0 : IH} {c rc : Bool} (hq : h0.length ≤ q) (q2 : 2 ≤ q) {l : Nat} {h : IH} (l3 : l ≤ 3) (hn : n + 2 * l ≤ NM) (gw : Gw n h0 h) (e : h[q]? = some (.lst [])) :
    ∃ (szs : List (Nat × Nat)) (x : Option D) (h' : IH), forS (gnameM 4) szB (rngD 0 l) [some (.ref 1), some (.bl c), some (.bl rc), some (.ref q), none, none, none, none] h = .nx [some (.ref 1), some (.bl c), some (.bl rc), some (.ref q), x, none, none, none] h' ∧ h'[q]? = some (.lst (szs.map dC)) ∧ szs.length = l ∧ (∀ s ∈ szs, okSz s) ∧ Gw (n + 2 * l) h0 h' := by
  obtain ⟨e', h', e1, szs, x, rfl, h1, h2, h3, h4⟩ := forS_inv (ds := rngD 0 l) (g := gnameM 4) (mb := szB) (fun i e h => ∃ (szs : List (Nat × Nat)) (x : Option D), e = [some (.ref 1), some (.bl c), some (.bl rc), some (.ref q), x, none, none, none] ∧ h[q]? = some (.lst (szs.map dC)) ∧ szs.length = i ∧ (∀ s ∈ szs, okSz s) ∧ Gw (n + 2 * i) h0 h) (by
    rintro i e h d ⟨szs, x, rfl, h1, h2, h3, h4⟩ hd
    have hi := (List.getElem?_eq_some_iff.mp hd).1
    rw [Zc.rngD_length] at hi
    obtain ⟨a, h5, e5, c5, g5, l5⟩ := ev_dr (k := 3) h4.st (by omega)
    obtain ⟨b, h6, e6, c6, g6, l6⟩ := ev_dr (k := 5) g5.st (by omega)
    have hq6 := (g5.trans g6).get h1 q2
    have ap := append_ref (d := dC (a, 1 + b)) hq6 (by simp; omega)
    have em : szs.map dC ++ [dC (a, 1 + b)] = (szs ++ [(a, 1 + b)]).map dC := by simp
    rw [em] at ap
    have mm := methM_ref (m := appendF) (mo := varM 3) (ms := aconsM (tupM (aconsM (callM F__law_next (aconsM (varM 0) (aconsM (constM (.int 3)) anilM))) (aconsM (binM addM (constM (.int 1)) (callM F__law_next (aconsM (varM 0) (aconsM (constM (.int 5)) anilM)))) anilM))) anilM) (env := [some (.ref 1), some (.bl c), some (.bl rc), some (.ref q), some d, none, none, none]) (h := h) (h1 := h) (n := q) (xs := szs.map dC) (ds := [dC (a, 1 + b)]) (h2 := h6) (by simp) h1 (by simp [e5, e6, tupM_eq, dC, iD])
    rw [ap] at mm
    refine ⟨_, rfl, [some (.ref 1), some (.bl c), some (.bl rc), some (.ref q), some d, none, none, none], _, .inl (by simp [szB, mm]; rfl), szs ++ [(a, 1 + b)], some d, rfl, by simp [(List.getElem?_eq_some_iff.mp hq6).1], by simp [h2], ?_, ?_⟩
    · intro s hs
      rcases List.mem_append.mp hs with hs | hs
      · exact h3 s hs
      · rw [List.mem_singleton.mp hs]
        exact ⟨by show a ≤ 2; omega, by show 1 ≤ 1 + b; omega, by show 1 + b ≤ 5; omega⟩
    · exact ((h4.trans (g5.trans g6)).mono (by omega)).set hq q2) l 0 _ h (by rw [Zc.rngD_length]; omega) (by omega) ⟨[], none, rfl, e, rfl, (fun _ h => nomatch h), gw⟩
  rw [List.drop_zero] at e1
  rw [Zc.rngD_length] at h2 h4
  exact ⟨szs, x, h', e1, h1, h2, h3, h4⟩
end Zc
/-! G1X: graphs and places drawn. -/
namespace Zc
open PySem L2 Z Q
theorem ixM_dC0 {c : Nat × Nat} {h : IH} : ixM (dC c) (.int 0) h = .ok (iD c.1) h := by simp [dC]
theorem ixM_dC1 {c : Nat × Nat} {h : IH} : ixM (dC c) (.int 1) h = .ok (iD c.2) h := by simp [dC]
noncomputable def csB : MS := ifM (torM (testM (varM 2)) (btestM (binM gtM (varM 7) (varM 4)))) (exprM (methM appendF (varM 6) (aconsM (tupM (aconsM (varM 7) (aconsM (binM ixM (binM ixM (varM 3) (varM 7)) (constM (.int 0))) anilM))) anilM))) nextM
theorem ixM_dCs {h : IH} {q k : Nat} {szs : List (Nat × Nat)} {s : Nat × Nat} (e : h[q]? = some (.lst (szs.map dC))) (hs : szs[k]? = some s) : ixM (.ref q) (.int (k : Int)) h = .ok (dC s) h := by
  rw [ixM_ref e, atI_of (x := dC s) (by simp [hs])]
theorem cs_loop {n q3 k : Nat} {q5 : Nat} {h : IH} {c rc : Bool} {z : Option D} {szs : List (Nat × Nat)} (w : St n h) (h3 : h[q3]? = some (.lst (szs.map dC))) (z3 : 2 ≤ q3) (hs : ∀ s ∈ szs, okSz s) (sl : szs.length ≤ 3) :
    ∃ (cs : List (Nat × Nat)) (x : Option D) (h' : IH), forS (gnameM 7) csB (rngD 0 szs.length) [some (.ref 1), some (.bl c), some (.bl rc), some (.ref q3), some (.int (k : Int)), some (.ref q5), some (.ref h.length), z] (h ++ [.lst []]) = .nx [some (.ref 1), some (.bl c), some (.bl rc), some (.ref q3), some (.int (k : Int)), some (.ref q5), some (.ref h.length), x] h' ∧
      h'[h.length]? = some (.lst (cs.map dC)) ∧ cs.length ≤ szs.length ∧ (∀ c ∈ cs, (∃ s, szs[c.1]? = some s ∧ s.1 = c.2) ∧ c.2 ≤ 3) ∧ Gw n h h' := by
  obtain ⟨e', h', e1, cs, x, rfl, h1, h2, h5, h4⟩ := forS_inv (ds := rngD 0 szs.length) (g := gnameM 7) (mb := csB) (fun i e H => ∃ (cs : List (Nat × Nat)) (x : Option D), e = [some (.ref 1), some (.bl c), some (.bl rc), some (.ref q3), some (.int (k : Int)), some (.ref q5), some (.ref h.length), x] ∧ H[h.length]? = some (.lst (cs.map dC)) ∧ cs.length ≤ i ∧ (∀ c ∈ cs, (∃ s, szs[c.1]? = some s ∧ s.1 = c.2) ∧ c.2 ≤ 3) ∧ Gw n h H) (by
    rintro i e H d ⟨cs, x, rfl, h1, h2, h5, h4⟩ hd
    obtain ⟨hi, rfl⟩ := rngD_get hd
    have es : szs[i]? = some szs[i] := List.getElem?_eq_getElem hi
    have h3' := h4.get h3 z3
    have ix := ixM_dCs h3' es
    have ap := append_ref (d := dC (i, szs[i].1)) h1 (by simp; omega)
    have em : cs.map dC ++ [dC (i, szs[i].1)] = (cs ++ [(i, szs[i].1)]).map dC := by simp
    rw [em] at ap
    have z0 : (0 : Int) + (i : Int) = (i : Int) := by omega
    have mm := methM_ref (m := appendF) (mo := varM 6) (ms := aconsM (tupM (aconsM (varM 7) (aconsM (binM ixM (binM ixM (varM 3) (varM 7)) (constM (.int 0))) anilM))) anilM) (env := [some (.ref 1), some (.bl c), some (.bl rc), some (.ref q3), some (.int (k : Int)), some (.ref q5), some (.ref h.length), some (.int (i : Int))]) (h := H) (h1 := H) (n := h.length) (xs := cs.map dC) (ds := [dC (i, szs[i].1)]) (h2 := H) (by simp) h1 (by simp [ix, ixM_dC0, tupM_eq]; rfl)
    rw [ap] at mm
    rw [z0]
    by_cases q : rc = true ∨ (k : Int) < (i : Int)
    · refine ⟨_, rfl, [some (.ref 1), some (.bl c), some (.bl rc), some (.ref q3), some (.int (k : Int)), some (.ref q5), some (.ref h.length), some (.int (i : Int))], H.set h.length (.lst ((cs ++ [(i, szs[i].1)]).map dC)), .inl ?_, cs ++ [(i, szs[i].1)], some (.int (i : Int)), rfl, by simp [(List.getElem?_eq_some_iff.mp h1).1], by simp; omega, ?_, h4.set (Nat.le_refl _) w.lt⟩
      · rcases q with rfl | q
        · simp [csB, mm]
        · cases rc
          · simp [csB, q, mm]
          · simp [csB, mm]
      · intro c hc
        rcases List.mem_append.mp hc with hc | hc
        · exact h5 c hc
        · rw [List.mem_singleton.mp hc]
          exact ⟨⟨szs[i], es, rfl⟩, by have := (hs szs[i] (List.getElem_mem hi)).1; show szs[i].1 ≤ 3; omega⟩
    · have r0 : rc = false := by
        cases rc
        · rfl
        · exact absurd (.inl rfl) q
      have k0 : ¬ (k : Int) < (i : Int) := fun p => q (.inr p)
      subst r0
      exact ⟨_, rfl, [some (.ref 1), some (.bl c), some (.bl false), some (.ref q3), some (.int (k : Int)), some (.ref q5), some (.ref h.length), some (.int (i : Int))], H, .inl (by simp [csB, k0]), cs, some (.int (i : Int)), rfl, h1, by omega, h5, h4⟩) szs.length 0 _ (h ++ [.lst []]) (by rw [Zc.rngD_length]; omega) (by omega) ⟨[], z, rfl, by simp, by simp, (fun _ h => nomatch h), .app w⟩
  rw [List.drop_zero] at e1
  rw [Zc.rngD_length] at h2
  exact ⟨cs, x, h', e1, h1, h2, h5, h4⟩
noncomputable def prB : MS := seqM (setM 6 (lstM anilM))
  (seqM (forM (rngI1 (aconsM (callM lenF (aconsM (varM 3) anilM)) anilM)) (gnameM 7) csB)
  (exprM (methM appendF (varM 5) (aconsM (callM F__law_procedure (aconsM (varM 0) (aconsM (binM ixM (binM ixM (varM 3) (varM 4)) (constM (.int 0))) (aconsM (binM ixM (binM ixM (varM 3) (varM 4)) (constM (.int 1))) (aconsM (varM 6) (aconsM (varM 1) anilM)))))) anilM))))
def PrI (n q3 q5 : Nat) (szs : List (Nat × Nat)) (c rc : Bool) (h0 : IH) (i : Nat) (e : Ev) (h : IH) : Prop := ∃ (g : List Pr) (x y z : Option D), e = [some (.ref 1), some (.bl c), some (.bl rc), some (.ref q3), x, some (.ref q5), y, z] ∧ h[q3]? = some (.lst (szs.map dC)) ∧ h[q5]? = some (.lst (g.map dP)) ∧ g.map szP = szs.take i ∧ (∀ p ∈ g, ∀ x ∈ p.pts, OkS szs p.ex p.pts.length x) ∧ Gw (n + 300 * i) h0 h
theorem pr_step {n q3 q5 : Nat} {szs : List (Nat × Nat)} {c rc : Bool} {h0 : IH} (hn : n + 900 ≤ NM) (z3 : 2 ≤ q3) (z5 : 2 ≤ q5) (l5 : h0.length ≤ q5) (n35 : q3 ≠ q5) (hs : ∀ s ∈ szs, okSz s) (sl : szs.length ≤ 3) {i : Nat} {e : Ev} {h : IH} (hi : i < szs.length) (w : PrI n q3 q5 szs c rc h0 i e h) :
    ∃ e2 h2, prB (e.set 4 (some (.int (i : Int)))) h = .nx e2 h2 ∧ PrI n q3 q5 szs c rc h0 (i + 1) e2 h2 := by
  obtain ⟨g, x, y, z, rfl, h3, h5, hg, hp, gw⟩ := w
  obtain ⟨cs, x', h1, e1, c1, cl, ck, g1⟩ := cs_loop (k := i) (q5 := q5) (c := c) (rc := rc) (z := z) gw.st h3 z3 hs sl
  have es : szs[i]? = some szs[i] := List.getElem?_eq_getElem hi
  have os := hs szs[i] (List.getElem_mem hi)
  obtain ⟨p, h2, e2, px, pl, po, g2⟩ := ev_law_procedure (szs := szs) (cs := cs) (ex := szs[i].1) (many := szs[i].2) (qc := h.length) (ch := c) g1.st (by omega) (by have := os.1; omega) os.2.1 (by have := os.2.2; omega) c1 gw.st.lt (by omega) ck
  have h31 := g1.get h3 z3
  have h51 := g1.get h5 z5
  have h32 := g2.get h31 z3
  have h52 := g2.get h51 z5
  have ix := ixM_dCs h31 es
  have gl : g.length = i := by
    have := congrArg List.length hg
    simp at this
    omega
  have ap := append_ref (d := dP p) h52 (by simp; omega)
  have em : g.map dP ++ [dP p] = (g ++ [p]).map dP := by simp
  rw [em] at ap
  have mm := methM_ref (m := appendF) (mo := varM 5) (ms := aconsM (callM F__law_procedure (aconsM (varM 0) (aconsM (binM ixM (binM ixM (varM 3) (varM 4)) (constM (.int 0))) (aconsM (binM ixM (binM ixM (varM 3) (varM 4)) (constM (.int 1))) (aconsM (varM 6) (aconsM (varM 1) anilM)))))) anilM) (env := [some (.ref 1), some (.bl c), some (.bl rc), some (.ref q3), some (.int (i : Int)), some (.ref q5), some (.ref h.length), x']) (h := h1) (h1 := h1) (n := q5) (xs := g.map dP) (ds := [dP p]) (h2 := h2) (by simp) h51 (by simp [ix, ixM_dC0, ixM_dC1, e2])
  rw [ap] at mm
  have ln : ∀ h' : IH, h'[q3]? = some (.lst (szs.map dC)) → lenF [.ref q3] h' = .ok (.int (szs.length : Int)) h' := fun h' e => by rw [lenF_ref e]; simp
  have hr := rngI1_int (j := (szs.length : Int)) (n := szs.length) (h := h ++ [.lst []]) (h' := h ++ [.lst []]) (ms := aconsM (callM lenF (aconsM (varM 3) anilM)) anilM) (env := [some (.ref 1), some (.bl c), some (.bl rc), some (.ref q3), some (.int (i : Int)), some (.ref q5), some (.ref h.length), z]) (by simp [ln (h ++ [.lst []]) ((Gw.app gw.st).get h3 z3)]) (by omega) (by omega) (by omega)
  refine ⟨[some (.ref 1), some (.bl c), some (.bl rc), some (.ref q3), some (.int (i : Int)), some (.ref q5), some (.ref h.length), x'], h2.set q5 (.lst ((g ++ [p]).map dP)), ?_, g ++ [p], _, _, _, rfl, ?_, by simp [(List.getElem?_eq_some_iff.mp h52).1], ?_, ?_, ?_⟩
  · simp [prB, lstM_eq, newL_eq, hr, -rngI1_eq, e1, mm, -List.map_append]
  · rw [List.getElem?_set_ne (by omega)]
    exact h32
  · rw [List.map_append, hg, List.take_add_one, es]
    show _ ++ [(p.ex, p.pts.length)] = _
    rw [px, pl]
    rfl
  · intro q hq
    rcases List.mem_append.mp hq with hq | hq
    · exact hp q hq
    · rw [List.mem_singleton.mp hq, px, pl]
      exact po
  · exact ((gw.trans (g1.trans g2)).mono (by omega)).set l5 z5
theorem ev_law_procedures {n : Nat} {c rc : Bool} {h : IH} (w : St n h) (hn : n + 1000 ≤ NM) : ∃ (g : Gr) (h' : IH), F__law_procedures [.ref 1, .bl c, .bl rc] h = .ok (dG g) h' ∧ DG g ∧ Gw (n + 1000) h h' := by
  have q2 := w.lt
  have G0 : Gw n h (h ++ [.lst []]) := .app w
  obtain ⟨d, h1, e1, c1, g1, l1⟩ := ev_dr (k := 3) G0.st (by omega)
  obtain ⟨szs, x, h2, e2, s2, sl, so, g2⟩ := szs_loop (c := c) (rc := rc) (Nat.le_refl _) q2 (l := 1 + d) (by omega) (by omega) (G0.trans g1) (g1.get (by simp) q2)
  have G2 : Gw (n + 1 + 2 * (1 + d)) h (h2 ++ [.lst []]) := g2.trans (.app g2.st)
  have l2 := g2.len
  have lt : h.length < h2.length := by
    have := (List.getElem?_eq_some_iff.mp s2).1
    exact this
  obtain ⟨e', h3, e3, g, a1, a2, a3, rfl, s3, s5, hg, hp, g3⟩ := forS_inv (ds := rngD 0 szs.length) (g := gnameM 4) (mb := prB) (PrI (n + 1 + 2 * (1 + d)) h.length h2.length szs c rc h) (by
    rintro i e H d wi hd
    obtain ⟨hi, rfl⟩ := rngD_get hd
    have z0 : (0 : Int) + (i : Int) = (i : Int) := by omega
    obtain ⟨e2, H2, r1, r2⟩ := pr_step (by omega) q2 (by omega) (by omega) (by omega) so (by omega) hi wi
    exact ⟨_, rfl, e2, H2, .inl (by rw [z0]; exact r1), r2⟩) szs.length 0 [some (.ref 1), some (.bl c), some (.bl rc), some (.ref h.length), x, some (.ref h2.length), none, none] (h2 ++ [.lst []]) (by rw [Zc.rngD_length]; omega) (by omega) ⟨[], _, _, _, rfl, (Gw.app g2.st).get s2 q2, by simp, rfl, (fun _ h => nomatch h), G2⟩
  rw [List.drop_zero] at e3
  rw [Zc.rngD_length] at hg g3
  rw [List.take_length] at hg
  subst hg
  rw [List.length_map] at sl g3 e3
  obtain ⟨h', et, G⟩ := trunc_gw (d := dG g) w (by omega) (g3.mono (m := n + 1000) (by omega))
  refine ⟨g, h', ?_, dg_of (by omega) (by omega) (fun p hp => so _ (List.mem_map_of_mem hp)) hp, G⟩
  rw [← et]
  have r1 := rngI1_int (j := 1 + (d : Int)) (n := 1 + d) (h := h ++ [.lst []]) (h' := h1) (ms := aconsM (binM addM (constM (.int 1)) (callM F__law_next (aconsM (varM 0) (aconsM (constM (.int 3)) anilM)))) anilM) (env := [some (.ref 1), some (.bl c), some (.bl rc), some (.ref h.length), none, none, none, none]) (by simp [e1]) (by omega) (by omega) (by omega)
  have ln : lenF [.ref h.length] (h2 ++ [.lst []]) = .ok (.int (g.length : Int)) (h2 ++ [.lst []]) := by rw [lenF_ref ((Gw.app g2.st).get s2 q2)]; simp
  have r2 := rngI1_int (j := (g.length : Int)) (n := g.length) (h := h2 ++ [.lst []]) (h' := h2 ++ [.lst []]) (ms := aconsM (callM lenF (aconsM (varM 3) anilM)) anilM) (env := [some (.ref 1), some (.bl c), some (.bl rc), some (.ref h.length), x, some (.ref h2.length), none, none]) (by simp [ln]) (by omega) (by omega) (by omega)
  unfold szB at e2
  unfold prB csB at e3
  simp [F__law_procedures, M__law_procedures, defM, lstM_eq, newL_eq, r1, -rngI1_eq, e2, r2, e3, tupleF_ref s5]
  rfl
/-- a place of a graph -/
def inG (g : Gr) (c : Nat × Nat) : Prop := ∃ p, g[c.1]? = some p ∧ c.2 < p.pts.length
theorem ev_law_place {n : Nat} {g : Gr} {h : IH} (w : St n h) (hn : n + 2 ≤ NM) (ok : OkG g) : ∃ (c : Nat × Nat) (h' : IH), F__law_place [.ref 1, dG g] h = .ok (dC c) h' ∧ inG g c ∧ Gw (n + 2) h h' ∧ h'.length = h.length := by
  have l1 := ok.l1
  have l6 := ok.l6
  obtain ⟨a, h1, e1, c1, g1, k1⟩ := ev_dr (k := (g.length : Int)) w (by omega) (by omega) (by omega)
  have ha : a < g.length := by omega
  have es : g[a]? = some g[a] := List.getElem?_eq_getElem ha
  have p1 := ok.p1 g[a] (List.getElem_mem ha)
  have p16 := ok.p16 g[a] (List.getElem_mem ha)
  obtain ⟨b, h2, e2, c2, g2, k2⟩ := ev_dr (k := (g[a].pts.length : Int)) g1.st (by omega) (by omega) (by omega)
  refine ⟨(a, b), h2, ?_, ⟨g[a], es, by show b < g[a].pts.length; omega⟩, g1.trans g2, by omega⟩
  have ix : ixM (dG g) (.int (a : Int)) h1 = .ok (dP g[a]) h1 := ixM_dG es
  simp [F__law_place, M__law_place, defM, okV_dG, lenF_dG, e1, ix, okV_dP, ixM_dP1, e2, tupM_eq]
  exact trunc_len (by omega)
end Zc
/-! G1J: graphs that stand; rejecting. -/
namespace Zc
open PySem L2 Z Q
/-- what stood stands -/
structure Ap (h h' : IH) : Prop where
  len : h.length ≤ h'.length
  keep : ∀ i, i < h.length → h'[i]? = h[i]?
section
variable {h h' h'' g : IH} {d : D} {o : IO} {i k n : Nat}
theorem Ap.refl : Ap h h := ⟨Nat.le_refl _, fun _ _ => rfl⟩
theorem Ap.trans (w : Ap h h') (v : Ap h' h'') : Ap h h'' := ⟨Nat.le_trans w.len v.len, fun i hi => (v.keep i (Nat.lt_of_lt_of_le hi w.len)).trans (w.keep i hi)⟩
theorem Ap.app : Ap h (h ++ g) := ⟨by simp, fun i hi => List.getElem?_append_left hi⟩
theorem Ap.set (w : Ap h h') (hi : h.length ≤ i) : Ap h (h'.set i o) := ⟨by rw [List.length_set]; exact w.len, fun j hj => by rw [List.getElem?_set_ne (by omega)]; exact w.keep j hj⟩
theorem Ap.get (w : Ap h h') (e : h[i]? = some o) : h'[i]? = some o := (w.keep i (List.getElem?_eq_some_iff.mp e).1).trans e
theorem Ap.take (w : Ap h h') : h'.take h.length = h := by
  refine List.ext_getElem? fun i => ?_
  by_cases c : i < h.length
  · rw [List.getElem?_take_of_lt c]
    exact w.keep i c
  · rw [List.getElem?_eq_none (by simp; omega), List.getElem?_eq_none (by omega)]
theorem trunc_ap (w : Ap h h') (c : d.lt h.length = true) : trunc h (.ok d h') = .ok d h := by
  rw [trunc_ok, if_pos ⟨c, w.take⟩]
theorem Ap.gw {m : Nat} (v : St m h) (w : Ap h h') : Gw m h h' := ⟨v.of (w.keep 0 (by have := v.lt; omega)) (w.keep 1 (by have := v.lt; omega)), w.len, fun i _ hi => w.keep i hi⟩
theorem lt_pln : ∀ (k : Nat) (d : D), pln k d = true → d.lt n = true
  | 0, _, h => by cases h
  | k + 1, d, h => by
    cases d with
    | non => rfl
    | int _ => rfl
    | str _ => rfl
    | tup ds =>
      have h : ds.all (pln k) = true := h
      rw [lt_tup]
      rw [List.all_eq_true] at h
      have : ∀ ds : List D, (∀ d ∈ ds, pln k d = true) → D.ltL n ds = true := fun ds => by
        induction ds with
        | nil => intro _; rfl
        | cons d ds ih =>
          intro q
          rw [ltL_cons, lt_pln k d (q d List.mem_cons_self), ih fun e he => q e (List.mem_cons_of_mem _ he)]
          rfl
      exact this ds h
    | _ => cases h
end
/-! ### comprehensions over lists that stand -/
theorem lcV_map {α : Type} {f : α → D} {r : α → D} {g : MG} {me : ME} {env : Ev} {h : IH} {k : Nat} {xs : List α} (hk : h[k]? = some (.lst (xs.map f))) (H : ∀ a ∈ xs, ∃ e, g (f a) env = some e ∧ me e h = .ok (r a) h) : ∀ (l fuel : Nat), xs.length - l < fuel → l ≤ xs.length →
    lcV g yesM me env (viewL k) fuel l h = .ok ((xs.drop l).map r) h
  | l, 0, hf, _ => by omega
  | l, fuel + 1, hf, hl => by
    have view : viewL k h = some (xs.map f) := viewL_eq hk
    by_cases c0 : l = xs.length
    · subst c0
      rw [List.drop_length]
      show (match viewL k h with
        | none => R.stuck
        | some ds => match ds[xs.length]? with
          | none => .ok [] h
          | some d => _) = _
      rw [view]
      dsimp only
      rw [List.getElem?_eq_none (by simp)] <;> rfl
    · have hl' : l < xs.length := by omega
      obtain ⟨e, e1, e2⟩ := H xs[l] (List.getElem_mem hl')
      have ih := lcV_map hk H (l + 1) fuel (by omega) (by omega)
      rw [List.drop_eq_getElem_cons hl', List.map_cons]
      show (match viewL k h with
        | none => R.stuck
        | some ds => match ds[l]? with
          | none => .ok [] h
          | some d => match g d env with
            | none => .stuck
            | some e => (yesM e h).bindG (fun _ _ => .stuck) .stuck fun b h => if b = true then (me e h).bindG (fun _ _ => .stuck) .stuck fun y h => (lcV g yesM me env (viewL k) fuel (l + 1) h).bind fun ys h => .ok (y :: ys) h else lcV g yesM me env (viewL k) fuel (l + 1) h) = _
      rw [view]
      dsimp only
      rw [List.getElem?_map, List.getElem?_eq_getElem hl']
      dsimp only [Option.map]
      rw [e1]
      show (me e h).bindG (fun _ _ => .stuck) .stuck (fun y h => (lcV g yesM me env (viewL k) fuel (l + 1) h).bind fun ys h => .ok (y :: ys) h) = _
      rw [e2]
      show (lcV g yesM me env (viewL k) fuel (l + 1) h).bind (fun ys h => .ok (r xs[l] :: ys) h) = _
      rw [ih]
      rfl
theorem lc_live {α : Type} {f : α → D} {r : α → D} {g : MG} {me : ME} {own : List Nat} {env : Ev} {h : IH} {k : Nat} {ma : ME} {xs : List α} (e : ma env h = .ok (.ref k) h) (hk : h[k]? = some (.lst (xs.map f))) (hl : xs.length < MOST) (H : ∀ a ∈ xs, ∃ e1, g (f a) (wipeE env own) = some e1 ∧ me e1 h = .ok (r a) h) :
    lcM (seqI ma) own g yesM me env h = .ok (.ref h.length) (h ++ [.lst (xs.map r)]) := by
  have := lcV_map (env := wipeE env own) hk H 0 MOST (by omega) (by omega)
  rw [List.drop_zero] at this
  exact lcM_live (by simp [e, srcOf_ref hk]) this
theorem enD_zip {α : Type} {f : α → D} : ∀ (xs : List α) (k : Nat), enD k (xs.map f) = (xs.zipIdx k).map fun q => .tup [iD q.2, f q.1]
  | [], _ => rfl
  | x :: xs, k => by
    rw [List.map_cons, List.zipIdx_cons, List.map_cons, ← enD_zip xs (k + 1)]
    rfl
theorem enD_get {α : Type} {f : α → D} {xs : List α} {i : Nat} {d : D} (h : (enD 0 (xs.map f))[i]? = some d) : ∃ hi : i < xs.length, d = .tup [iD i, f xs[i]] := by
  rw [enD_zip, List.getElem?_map, List.getElem?_zipIdx] at h
  cases e : xs[i]? with
  | none => rw [e] at h; cases h
  | some a =>
    obtain ⟨hi, ea⟩ := List.getElem?_eq_some_iff.mp e
    rw [e] at h
    cases h
    exact ⟨hi, by rw [ea]; simp⟩
/-! ### a graph that stands -/
def isG (h : IH) (n : Nat) (g : Gr) : Prop := h[n]? = some (.ins "Graph" (gF g))
section
variable {h : IH} {g : Gr} {n : Nat}
theorem iso_G {T : Str} {ma : ME} {env : Ev} (hT : T = "Graph" := by rfl) (e : ma env h = .ok (.ref n) h) (w : isG h n g) : isoM (kit1 T) T ma env h = .ok (.bl true) h := by
  subst hT
  unfold isG at w
  unfold isoM
  rw [e]
  have t1 : tyN h (.ref n) = none := by unfold tyN; simp only [w]
  simp [R.bind, Z.tyV, t1, insAt_ref w, kit1]
theorem ev_check_graph (w : isG h n g) : F_check_graph [.ref n] h = .ok .non h := by
  have e := iso_G (ma := varM 0) (env := [some (.ref n)]) rfl (by simp) w
  simp [F_check_graph, M_check_graph, defM, e]
theorem fld_G {f : Str} {ma : ME} {env : Ev} (hf : f = "procedures" := by rfl) (e : ma env h = .ok (.ref n) h) (w : isG h n g) : fldM (okF ["Graph"] f) f ma env h = .ok (dG g) h := by
  subst hf
  exact fld_procs e w
theorem ev_is_place {c : Nat × Nat} (w : isG h n g) (hc : inG g c) : F_Graph_is_place [.ref n, dC c] h = .ok (.bl true) h := by
  obtain ⟨p, h1, h2⟩ := hc
  have e := fun h (w : isG h n g) => fld_G (ma := varM 0) (env := [some (.ref n), some (dC c)]) rfl (by simp) w
  have l1 := (List.getElem?_eq_some_iff.mp h1).1
  have i1 := fun h => ev_is_index (h := h) (n := c.1) (many := g.length)
  have i2 := fun h => ev_is_index (h := h) (n := c.2) (many := p.pts.length)
  have lg : ∀ h, lenF [dG g] h = .ok (iD g.length) h := fun h => lenF_dG
  have lp : ∀ h, lenF [.tup (p.pts.map dPt)] h = .ok (iD p.pts.length) h := fun h => by simp [iD]
  have ix := fun h => ixM_dG (h := h) h1
  have oc : ∀ h, okV h (dC c) = .ok (dC c) h := fun h => rfl
  have tc : ∀ h, tyN h (dC c) = some "tuple" := fun h => rfl
  have lc : ∀ h, lenF [dC c] h = .ok (.int 2) h := fun h => rfl
  simp [F_Graph_is_place, M_Graph_is_place, defM, oc, tc, lc, ixM_dC0, ixM_dC1, e h w, lg, i1, l1, ix, ixM_dP1, -lenF_tup, lp, i2, h2]
end
/-! ### rejecting -/
def rjP (cs : List (Nat × Nat)) (a : Nat) (p : Pr) : Pr := ⟨p.ex, p.pts.zipIdx.map fun q => if (a, q.2) ∈ cs then .reject else q.1⟩
def rj (cs : List (Nat × Nat)) (g : Gr) : Gr := g.zipIdx.map fun q => rjP cs q.2 q.1
section
variable {cs : List (Nat × Nat)} {g : Gr}
theorem rj_get {i : Nat} : (rj cs g)[i]? = (g[i]?).map (rjP cs i) := by
  unfold rj
  rw [List.getElem?_map, List.getElem?_zipIdx]
  cases g[i]? <;> simp
theorem rjP_get {a i : Nat} {p : Pr} : (rjP cs a p).pts[i]? = (p.pts[i]?).map fun x => if (a, i) ∈ cs then .reject else x := by
  unfold rjP
  dsimp only
  rw [List.getElem?_map, List.getElem?_zipIdx]
  cases p.pts[i]? <;> simp
theorem rjP_len {a : Nat} {p : Pr} : (rjP cs a p).pts.length = p.pts.length := by simp [rjP]
theorem rj_len : (rj cs g).length = g.length := by simp [rj]
theorem rj_sz : (rj cs g).map szP = g.map szP := by
  refine List.ext_getElem? fun i => ?_
  rw [List.getElem?_map, List.getElem?_map, rj_get]
  cases g[i]? with
  | none => rfl
  | some p =>
    show some (szP (rjP cs i p)) = some (szP p)
    unfold szP
    rw [rjP_len]
    rfl
theorem rj_rj : rj cs (rj cs g) = rj cs g := by
  refine List.ext_getElem? fun i => ?_
  rw [rj_get, rj_get]
  cases g[i]? with
  | none => rfl
  | some p =>
    show some (rjP cs i (rjP cs i p)) = some (rjP cs i p)
    have : (rjP cs i (rjP cs i p)).pts = (rjP cs i p).pts := by
      refine List.ext_getElem? fun j => ?_
      rw [rjP_get, rjP_get]
      cases p.pts[j]? with
      | none => rfl
      | some x =>
        by_cases c : (i, j) ∈ cs <;> simp [c]
    exact congrArg some (show (⟨p.ex, (rjP cs i (rjP cs i p)).pts⟩ : Pr) = ⟨p.ex, (rjP cs i p).pts⟩ by rw [this])
theorem okS_of {ex many : Nat} : ∀ {x : Pt}, OkPt g ex many x → OkS (g.map szP) ex many x
  | .exit _, h => h
  | .draw _, h => h
  | .choose _, h => h
  | .call p ps, h => by
    obtain ⟨q, h1, h2, h3⟩ := h
    exact ⟨szP q, by rw [List.getElem?_map, h1]; rfl, h2, h3⟩
  | .reward _ _, h => h
  | .reject, h => h
  | .stop, h => h
theorem ok_sz {g g' : Gr} (e : g'.map szP = g.map szP) (ok : OkG g) (pt : ∀ p ∈ g', ∀ x ∈ p.pts, OkS (g.map szP) p.ex p.pts.length x) : OkG g' := by
  have el : g'.length = g.length := by
    have := congrArg List.length e
    simpa using this
  have mem : ∀ p ∈ g', ∃ q ∈ g, szP q = szP p := fun p hp => by
    have : szP p ∈ g.map szP := by rw [← e]; exact List.mem_map_of_mem hp
    obtain ⟨q, hq, h⟩ := List.mem_map.mp this
    exact ⟨q, hq, h⟩
  have ep : ∀ {p q : Pr}, szP q = szP p → q.ex = p.ex ∧ q.pts.length = p.pts.length := fun h => by
    unfold szP at h
    injection h with h1 h2
    exact ⟨h1, h2⟩
  refine ⟨by rw [el]; exact ok.l1, by rw [el]; exact ok.l6, fun p hp => ?_, fun p hp => ?_, fun p hp => ?_, ?_, fun p hp x hx => okPt_of (by rw [e]; exact pt p hp x hx)⟩
  · obtain ⟨q, hq, h⟩ := mem p hp
    rw [← (ep h).1]; exact ok.ex q hq
  · obtain ⟨q, hq, h⟩ := mem p hp
    rw [← (ep h).2]; exact ok.p1 q hq
  · obtain ⟨q, hq, h⟩ := mem p hp
    rw [← (ep h).2]; exact ok.p16 q hq
  · have : (g'.map fun p => p.pts.length) = g.map fun p => p.pts.length := by
      have := congrArg (List.map Prod.snd) e
      rw [List.map_map, List.map_map] at this
      exact this
    rw [this]; exact ok.all
theorem ok_rj (ok : OkG g) : OkG (rj cs g) := by
  refine ok_sz rj_sz ok fun p hp x hx => ?_
  obtain ⟨i, hi⟩ := List.getElem?_of_mem hp
  rw [rj_get] at hi
  cases e : g[i]? with
  | none => rw [e] at hi; cases hi
  | some q =>
    rw [e] at hi
    cases hi
    obtain ⟨j, hj⟩ := List.getElem?_of_mem hx
    rw [rjP_get] at hj
    cases e2 : q.pts[j]? with
    | none => rw [e2] at hj; cases hj
    | some y =>
      rw [e2] at hj
      by_cases c : (i, j) ∈ cs
      · simp [c] at hj
        subst hj
        trivial
      · simp [c] at hj
        subst hj
        have := okS_of (ok.pt q (List.mem_of_getElem? e) y (List.mem_of_getElem? e2))
        rw [rjP_len]
        exact this
theorem in_rj {c : Nat × Nat} (h : inG g c) : inG (rj cs g) c := by
  obtain ⟨p, h1, h2⟩ := h
  exact ⟨rjP cs c.1 p, by rw [rj_get, h1]; rfl, by rw [rjP_len]; exact h2⟩
theorem dC_inj {a b : Nat × Nat} (h : dC a = dC b) : a = b := by
  unfold dC iD at h
  injection h with h
  injection h with h1 h2
  injection h2 with h2 _
  injection h1 with h1
  injection h2 with h2
  exact Prod.ext (by exact_mod_cast h1) (by exact_mod_cast h2)
theorem mem_dC {c : Nat × Nat} : dC c ∈ cs.map dC ↔ c ∈ cs := by
  rw [List.mem_map]
  exact ⟨fun ⟨a, h1, h2⟩ => dC_inj h2 ▸ h1, fun h => ⟨c, h, rfl⟩⟩
theorem pln_dC {k : Nat} {c : Nat × Nat} : pln (k + 1 + 1) (dC c) = true := rfl
theorem inM_dC {c : Nat × Nat} {h : IH} {m : Nat} (hm : h[m]? = some (.lst (cs.map dC))) : inM false (dC c) (.ref m) h = .ok (.bl (decide (c ∈ cs))) h := by
  rw [inM_pl (lisOf_ref hm) pln_dC (all_map (fun _ => pln_dC) cs)]
  simp [mem_dC]
end
end Zc
/-! G2P: the places of a graph. -/
namespace Zc
open PySem L2 Z Q
theorem appL_new {h : IH} {acc : List D} {y : D} (c : acc.length < 16777216) : appL h.length y (h ++ [IO.lst acc]) = some (h ++ [IO.lst (acc ++ [y])]) := by
  unfold appL
  simp [c]
/-- clauses that only put items at the end -/
theorem lcJ_app {h : IH} {k : D → IH → Option IH} {r : D → List D} {ds : List D} (H : ∀ d ∈ ds, ∀ acc : List D, acc.length + (r d).length ≤ 16777215 → k d (h ++ [IO.lst acc]) = some (h ++ [IO.lst (acc ++ r d)])) :
    ∀ (i m : Nat) (acc : List D), ds.length - i < m → i ≤ ds.length → acc.length + ((ds.drop i).flatMap r).length ≤ 16777215 → lcJ (.snap ds) k m i (h ++ [IO.lst acc]) = some (h ++ [IO.lst (acc ++ (ds.drop i).flatMap r)])
  | i, 0, _, hm, _, _ => by omega
  | i, m + 1, acc, hm, hi, hl => by
    show (match itm (.snap ds) (h ++ [IO.lst acc]) i with
      | none => none
      | some none => some (h ++ [IO.lst acc])
      | some (some d) => (k d (h ++ [IO.lst acc])).bind (lcJ (.snap ds) k m (i + 1))) = _
    have it : itm (.snap ds) (h ++ [IO.lst acc]) i = some ds[i]? := if_pos hi
    rw [it]
    by_cases c : i = ds.length
    · subst c
      rw [List.getElem?_eq_none (Nat.le_refl _), List.drop_length]
      simp
    · have hi' : i < ds.length := by omega
      rw [List.getElem?_eq_getElem hi']
      rw [List.drop_eq_getElem_cons hi', List.flatMap_cons] at hl ⊢
      rw [List.length_append] at hl
      dsimp only
      rw [H ds[i] (List.getElem_mem hi') acc (by omega)]
      show lcJ (.snap ds) k m (i + 1) (h ++ [IO.lst (acc ++ r ds[i])]) = _
      rw [lcJ_app H (i + 1) m (acc ++ r ds[i]) (by omega) (by omega) (by rw [List.length_append]; omega), List.append_assoc]
/-- a comprehension of two clauses that leaves the heap -/
theorem lc2_map {h : IH} {mi : MI} {own : List Nat} {g : MG} {mi1 : MI} {own1 : List Nat} {g1 : MG} {me : ME} {env : Ev} {ds : List D} {r : D → List D} (e : mi env h = .ok (.snap ds) h) (hl : ds.length < MOST) (ht : (ds.flatMap r).length ≤ 16777215)
    (H : ∀ d ∈ ds, ∃ (e : Ev) (ds1 : List D), g d (wipeE env own) = some e ∧ ds1.length < MOST ∧ (r d).length = ds1.length ∧ ∀ acc : List D, mi1 e (h ++ [IO.lst acc]) = .ok (.snap ds1) (h ++ [IO.lst acc]) ∧ ∀ (i : Nat) (d1 y : D), ds1[i]? = some d1 → (r d)[i]? = some y → ∃ e1, g1 d1 (wipeE e own1) = some e1 ∧ me e1 (h ++ [IO.lst acc]) = .ok y (h ++ [IO.lst acc])) :
    lc2M mi own g yesM mi1 own1 g1 yesM me env h = .ok (.ref h.length) (h ++ [IO.lst (ds.flatMap r)]) := by
  have key : ∀ d ∈ ds, ∀ acc : List D, acc.length + (r d).length ≤ 16777215 → onJ g yesM (wipeE env own) (in2J mi1 own1 g1 yesM me h.length) d (h ++ [IO.lst acc]) = some (h ++ [IO.lst (acc ++ r d)]) := fun d hd acc ha => by
    obtain ⟨e, ds1, h1, h2, h3, h4⟩ := H d hd
    unfold onJ
    rw [h1]
    show (in2J mi1 own1 g1 yesM me h.length) e (h ++ [IO.lst acc]) = _
    unfold in2J
    rw [(h4 acc).1]
    dsimp only
    -- item by item
    have inner : ∀ (m i : Nat) (ac : List D), ds1.length - i < m → i ≤ ds1.length → ac.length + (ds1.length - i) ≤ 16777215 → lcJ (.snap ds1) (onJ g1 yesM (wipeE e own1) (putJ h.length me)) m i (h ++ [IO.lst ac]) = some (h ++ [IO.lst (ac ++ (r d).drop i)]) := fun m => by
      induction m with
      | zero => intro i ac hm; omega
      | succ m ih =>
        intro i ac hm hi ha
        show (match itm (.snap ds1) (h ++ [IO.lst ac]) i with
          | none => none
          | some none => some (h ++ [IO.lst ac])
          | some (some d) => (onJ g1 yesM (wipeE e own1) (putJ h.length me) d (h ++ [IO.lst ac])).bind (lcJ (.snap ds1) _ m (i + 1))) = _
        have it : itm (.snap ds1) (h ++ [IO.lst ac]) i = some ds1[i]? := if_pos hi
        rw [it]
        by_cases c : i = ds1.length
        · subst c
          rw [List.getElem?_eq_none (Nat.le_refl _), List.drop_eq_nil_of_le (by omega)]
          simp
        · have hi' : i < ds1.length := by omega
          have hr' : i < (r d).length := by omega
          rw [List.getElem?_eq_getElem hi', List.drop_eq_getElem_cons hr']
          dsimp only
          obtain ⟨e1, q1, q2⟩ := (h4 ac).2 i ds1[i] (r d)[i] (List.getElem?_eq_getElem hi') (List.getElem?_eq_getElem hr')
          have : onJ g1 yesM (wipeE e own1) (putJ h.length me) ds1[i] (h ++ [IO.lst ac]) = some (h ++ [IO.lst (ac ++ [(r d)[i]])]) := by
            unfold onJ
            rw [q1]
            show putJ h.length me e1 (h ++ [IO.lst ac]) = _
            unfold putJ
            rw [q2]
            exact appL_new (by omega)
          rw [this]
          show lcJ (.snap ds1) _ m (i + 1) (h ++ [IO.lst (ac ++ [(r d)[i]])]) = _
          rw [ih (i + 1) _ (by omega) (by omega) (by rw [List.length_append]; simp; omega), List.append_assoc]
          rfl
    have := inner MOST 0 acc (by omega) (by omega) (by omega)
    rw [List.drop_zero] at this
    exact this
  unfold lc2M
  rw [e]
  have := lcJ_app key 0 MOST [] (by omega) (by omega) (by rw [List.drop_zero]; simpa using ht)
  rw [List.drop_zero, List.nil_append] at this
  simp only [R.bind, R.bindG_ok, this]
def pl (g : Gr) : List (Nat × Nat) := g.zipIdx.flatMap fun q => (List.range q.1.pts.length).map fun j => (q.2, j)
theorem pl_len {g : Gr} : (pl g).length = (g.map fun p => p.pts.length).sum := by
  unfold pl
  have : ∀ (g : Gr) (k : Nat), ((g.zipIdx k).flatMap fun q => (List.range q.1.pts.length).map fun j => (q.2, j)).length = (g.map fun p => p.pts.length).sum := fun g => by
    induction g with
    | nil => intro k; rfl
    | cons p g ih => intro k; rw [List.zipIdx_cons, List.flatMap_cons, List.length_append, ih]; simp
  exact this g 0
theorem mem_pl {g : Gr} {c : Nat × Nat} : c ∈ pl g ↔ inG g c := by
  unfold pl inG
  rw [List.mem_flatMap]
  constructor
  · rintro ⟨⟨p, i⟩, h1, h2⟩
    obtain ⟨j, h3, rfl⟩ := List.mem_map.mp h2
    exact ⟨p, List.mem_zipIdx_iff_getElem?.mp h1, List.mem_range.mp h3⟩
  · rintro ⟨p, h1, h2⟩
    exact ⟨(p, c.1), List.mem_zipIdx_iff_getElem?.mpr h1, List.mem_map.mpr ⟨c.2, List.mem_range.mpr h2, rfl⟩⟩
def plD : D → List D
  | .tup [.int i, .tup [_, .tup xs]] => (List.range xs.length).map fun j => .tup [.int i, iD j]
  | _ => []
theorem plD_eq {i : Nat} {p : Pr} : plD (.tup [iD i, dP p]) = (List.range p.pts.length).map fun j => dC (i, j) := by
  show (List.range (p.pts.map dPt).length).map (fun j => D.tup [.int (i : Int), iD j]) = _
  rw [List.length_map]
  rfl
theorem plD_all {g : Gr} : (g.zipIdx.map fun q : Pr × Nat => D.tup [iD q.2, dP q.1]).flatMap plD = (pl g).map dC := by
  unfold pl
  rw [List.flatMap_map, List.map_flatMap]
  congr 1
  funext q
  rw [plD_eq, List.map_map]
  rfl
theorem ev_places {h : IH} {n : Nat} {g : Gr} (w : isG h n g) (ok : OkG g) : F_Graph_places [.ref n] h = .ok (.ref h.length) (h ++ [IO.lst ((pl g).map dC)]) := by
  have en := enumI_tup (h := h) (ma := fldM (okF ["Graph"] "procedures") "procedures" (varM 0)) (env := [some (.ref n), none, none, none]) (ds := g.map dP) (fld_G rfl (by simp) w)
  rw [enD_zip] at en
  have l6 := ok.l6
  have e1 := lc2_map (h := h) (mi := enumI (oneM (aconsM (fldM (okF ["Graph"] "procedures") "procedures" (varM 0)) anilM))) (own := [2, 3, 1]) (g := gtupM 2 (gconsM (gnameM 2) (gconsM (gnameM 3) gnilM))) (mi1 := rngI1 (aconsM (callM lenF (aconsM (binM ixM (varM 3) (constM (.int 1))) anilM)) anilM)) (own1 := [1]) (g1 := gnameM 1) (me := tupM (aconsM (varM 2) (aconsM (varM 1) anilM))) (env := [some (.ref n), none, none, none])
    (r := plD) en (by simp; unfold MOST; omega) (by
      rw [plD_all, List.length_map, pl_len]
      have := ok.all
      omega) (by
      intro d hd
      obtain ⟨⟨p, i⟩, hp, rfl⟩ := List.mem_map.mp hd
      have hp' := List.mem_of_getElem? (List.mem_zipIdx_iff_getElem?.mp hp)
      have p16 := ok.p16 p hp'
      refine ⟨[some (.ref n), none, some (iD i), some (dP p)], (List.range p.pts.length).map iD, rfl, by simp; unfold MOST; omega, by dsimp only; rw [plD_eq]; simp, fun acc => ⟨?_, fun j d1 y h1 h2 => ?_⟩⟩
      · rw [← rngD_map]
        refine rngI1_int (j := (p.pts.length : Int)) ?_ (by omega) (by omega) (by omega)
        simp [okV_dP, ixM_dP1]
      · dsimp only at h2
        rw [plD_eq] at h2
        rw [List.getElem?_map] at h1 h2
        by_cases c : j < p.pts.length
        · rw [List.getElem?_range c] at h1
          rw [List.getElem?_range (by simpa using c)] at h2
          cases h1
          cases h2
          exact ⟨_, rfl, by simp [okV_iD, tupM_eq, wipeE]; rfl⟩
        · rw [List.getElem?_eq_none (by simpa using c)] at h1
          cases h1)
  rw [plD_all] at e1
  simp [F_Graph_places, M_Graph_places, defM, e1]
  exact trunc_new (Nat.le_refl _)
end Zc
/-! G3A: points of any graph drawn. -/
namespace Zc
open PySem L2 Z Q
def d60 (w : Nat) : D := dr (Rat.divInt (w : Int) 60)
theorem ev_low60 {w : Nat} {h : IH} : F__law_low [.int (w : Int), .int 60] h = .ok (d60 w) h := ev_law_lowR (k := 6) (by decide) (Bit.pos (by decide) (by decide))
theorem addM_refs {h : IH} {n m : Nat} {xs ys : List D} (e1 : h[n]? = some (.lst xs)) (e2 : h[m]? = some (.lst ys)) (hl : xs.length + ys.length ≤ 1000) : addM (.ref n) (.ref m) h = .ok (.ref h.length) (h ++ [.lst (xs ++ ys)]) := by
  unfold addM
  simp only [e1, e2]
  rw [if_pos (by rw [sizeLine_is]; omega)]
  rfl
noncomputable def chB : MS := seqM (setM 5 (binM addM (constM (.int 1)) (callM F__law_next (aconsM (varM 0) (aconsM (binM addM (binM addM (binM subM (varM 3) (varM 1)) (constM (.int 1))) (varM 4)) anilM)))))
  (seqM (exprM (methM appendF (varM 2) (aconsM (callM F__law_low (aconsM (varM 5) (aconsM (constM (.int 60)) anilM))) anilM)))
  (setM 3 (binM subM (varM 3) (varM 5))))
def ChI (n q m : Nat) (h0 : IH) (i : Nat) (e : Ev) (h : IH) : Prop := ∃ (ws : List Nat) (x y : Option D) (left : Nat), e = [some (.ref 1), some (.int (m : Int)), some (.ref q), some (.int (left : Int)), x, y] ∧ h[q]? = some (.lst (ws.map d60)) ∧ ws.length = i ∧ (∀ w ∈ ws, 1 ≤ w ∧ w ≤ 60) ∧ ws.sum + left = 60 ∧ m ≤ left + i ∧ 1 ≤ left ∧ Gw (n + i) h0 h
theorem ch_step {n q m : Nat} {h0 : IH} (m4 : m ≤ 4) (hn : n + 4 ≤ NM) (hq : h0.length ≤ q) (q2 : 2 ≤ q) {i : Nat} {e : Ev} {h : IH} (w : ChI n q m h0 i e h) (hi : i + 1 < m) :
    ∃ e2 h2, chB (e.set 4 (some (.int (i : Int)))) h = .nx e2 h2 ∧ ChI n q m h0 (i + 1) e2 h2 := by
  obtain ⟨ws, x, y, left, rfl, hw, wl, w1, wS, wm, l1, gw⟩ := w
  obtain ⟨a, h1, e1, a1, g1, _⟩ := ev_dr (k := (left : Int) - (m : Int) + 1 + (i : Int)) gw.st (by omega) (by omega) (by omega)
  have hw1 := g1.get hw q2
  have ap := append_ref (d := d60 (1 + a)) hw1 (by simp; omega)
  have em : ws.map d60 ++ [d60 (1 + a)] = (ws ++ [1 + a]).map d60 := by simp
  rw [em] at ap
  have el := fun h => ev_low60 (w := 1 + a) (h := h)
  have ca : ((1 + a : Nat) : Int) = 1 + (a : Int) := by push_cast; rfl
  rw [ca] at el
  have mm := methM_ref (m := appendF) (mo := varM 2) (ms := aconsM (callM F__law_low (aconsM (varM 5) (aconsM (constM (.int 60)) anilM))) anilM) (env := [some (.ref 1), some (.int (m : Int)), some (.ref q), some (.int (left : Int)), some (.int (i : Int)), some (.int (1 + (a : Int)))]) (h := h1) (h1 := h1) (n := q) (xs := ws.map d60) (ds := [d60 (1 + a)]) (h2 := h1) (by simp) hw1 (by simp [el])
  rw [ap] at mm
  refine ⟨[some (.ref 1), some (.int (m : Int)), some (.ref q), some (.int ((left - (1 + a) : Nat) : Int)), some (.int (i : Int)), some (.int (1 + (a : Int)))], h1.set q (.lst ((ws ++ [1 + a]).map d60)), ?_, ws ++ [1 + a], _, _, left - (1 + a), rfl, by simp [(List.getElem?_eq_some_iff.mp hw1).1], by simp [wl], ?_, by simp; omega, by omega, by omega, (gw.trans g1).set hq q2⟩
  · have lc : ((left - (1 + a) : Nat) : Int) = (left : Int) - (1 + (a : Int)) := by omega
    simp [chB, e1, mm, lc, -List.map_append]
  · intro w hw
    rcases List.mem_append.mp hw with hw | hw
    · exact w1 w hw
    · rw [List.mem_singleton.mp hw]; omega
theorem ev_law_chances {n m : Nat} {h : IH} (w : St n h) (hn : n + 4 ≤ NM) (m0 : 0 < m) (m4 : m ≤ 4) : ∃ (ws : List Nat) (q : Nat) (h' : IH), F__law_chances [.ref 1, .int (m : Int)] h = .ok (.ref q) h' ∧ h'[q]? = some (.lst (ws.map d60)) ∧ 2 ≤ q ∧ ws.length = m ∧ (∀ w ∈ ws, 1 ≤ w ∧ w ≤ 60) ∧ ws.sum = 60 ∧ Gw (n + 4) h h' := by
  have q2 := w.lt
  obtain ⟨k, rfl⟩ : ∃ k, m = k + 1 := ⟨m - 1, by omega⟩
  obtain ⟨e', h1, e1, ws, x, y, left, rfl, hw, wl, w1, wS, wm, l1, gw⟩ := forS_inv (ds := rngD 0 k) (g := gnameM 4) (mb := chB) (ChI n h.length (k + 1) h) (by
    intro i e H d wi hd
    obtain ⟨hi, rfl⟩ := rngD_get hd
    have z0 : (0 : Int) + (i : Int) = (i : Int) := by omega
    obtain ⟨e2, h2, r1, r2⟩ := ch_step m4 (by omega) (Nat.le_refl _) q2 wi (by omega)
    exact ⟨_, rfl, e2, h2, .inl (by rw [z0]; exact r1), r2⟩) k 0 [some (.ref 1), some (.int ((k + 1 : Nat) : Int)), some (.ref h.length), some (.int 60), none, none] (h ++ [.lst []]) (by rw [Zc.rngD_length]; omega) (by omega) ⟨[], none, none, 60, rfl, by simp, rfl, (fun _ h => nomatch h), rfl, by omega, by decide, .app w⟩
  rw [List.drop_zero] at e1
  rw [Zc.rngD_length] at wl gw
  have hw2 : (h1 ++ [IO.lst [d60 left]])[h.length]? = some (.lst (ws.map d60)) := (Ap.app (h := h1)).get hw
  have ad := addM_refs hw2 (m := h1.length) (ys := [d60 left]) (by simp) (by simp [wl]; omega)
  have em : ws.map d60 ++ [d60 left] = (ws ++ [left]).map d60 := by simp
  rw [em] at ad
  have el := fun h => ev_low60 (w := left) (h := h)
  have hr := rngI1_int (j := (k : Int)) (n := k) (h := h ++ [.lst []]) (h' := h ++ [.lst []]) (ms := aconsM (binM subM (varM 1) (constM (.int 1))) anilM) (env := [some (.ref 1), some (.int ((k + 1 : Nat) : Int)), some (.ref h.length), some (.int 60), none, none]) (by
    have := subM_iD1 (m := k) (h := h ++ [IO.lst []])
    unfold iD at this
    simp [-subM_int]
    push_cast at this
    rw [this]
    rfl) (by omega) (by omega) (by omega)
  have G1 : Gw (n + 4) h h1 := gw.mono (by omega)
  refine ⟨ws ++ [left], h1.length + 1, h1 ++ [.lst [d60 left], .lst ((ws ++ [left]).map d60)], ?_, by simp, by have := G1.len; omega, by simp [wl], ?_, by simp; omega, G1.trans (.app G1.st)⟩
  · unfold chB at e1
    push_cast at e1 hr
    simp [F__law_chances, M__law_chances, defM, lstM_eq, newL_eq, hr, -rngI1_eq, e1, el]
    simp at ad
    rw [ad]
    simp
    exact trunc_new (by have := G1.len; omega)
  · intro w hw
    rcases List.mem_append.mp hw with hw | hw
    · exact w1 w hw
    · rw [List.mem_singleton.mp hw]; omega
theorem ok60_fin : ∀ w : Fin 61, 0 < w.val → 0 < (Rat.divInt w.val 60).num ∧ (Rat.divInt w.val 60).num ≤ 60 ∧ (Rat.divInt w.val 60).den ≤ 60 := by decide +kernel
theorem am_den {a b : Nat} (b0 : 0 < b) : (Rat.divInt (a : Int) (b : Int)).den ≤ b ∧ 0 ≤ (Rat.divInt (a : Int) (b : Int)).num ∧ (Rat.divInt (a : Int) (b : Int)).num ≤ a := by
  have r := red_divInt (n := (a : Int)) (d := (b : Int)) (by omega)
  have rn : (Rat.divInt (a : Int) (b : Int)).num = (red a b).1 := by rw [r]
  have rd : ((Rat.divInt (a : Int) (b : Int)).den : Int) = (red a b).2 := by rw [r]
  have g0 := Q.gcd_pos (n := (a : Int)) (d := (b : Int)) (by omega)
  unfold red at rn rd
  dsimp only at rn rd
  refine ⟨?_, ?_, ?_⟩
  · have : (b : Int) / (Int.gcd a b : Int) ≤ b := Int.ediv_le_self _ (by omega)
    omega
  · rw [rn]
    exact Int.ediv_nonneg (by omega) (by omega)
  · rw [rn]
    exact Int.ediv_le_self _ (by omega)
end Zc
/-! G3B: any points and any graphs drawn. -/
namespace Zc
open PySem L2 Z Q
/-- exits and sizes as they stand in two lists -/
def okAs (s : Nat × Nat) : Prop := s.1 ≤ 3 ∧ 1 ≤ s.2 ∧ s.2 ≤ 10
def Sz (qe qs : Nat) (szs : List (Nat × Nat)) (h : IH) : Prop := h[qe]? = some (.lst (szs.map fun s => iD s.1)) ∧ h[qs]? = some (.lst (szs.map fun s => iD s.2))
theorem Sz.gw {qe qs n : Nat} {szs : List (Nat × Nat)} {h h' : IH} (w : Sz qe qs szs h) (g : Gw n h h') (q1 : 2 ≤ qe) (q2 : 2 ≤ qs) : Sz qe qs szs h' := ⟨g.get w.1 q1, g.get w.2 q2⟩
theorem Sz.ex {qe qs p : Nat} {szs : List (Nat × Nat)} {h : IH} {s : Nat × Nat} (w : Sz qe qs szs h) (e : szs[p]? = some s) : ixM (.ref qe) (.int (p : Int)) h = .ok (iD s.1) h := by
  rw [ixM_ref w.1, atI_of (x := iD s.1) (by rw [List.getElem?_map, e]; rfl)]
theorem Sz.sz {qe qs p : Nat} {szs : List (Nat × Nat)} {h : IH} {s : Nat × Nat} (w : Sz qe qs szs h) (e : szs[p]? = some s) : ixM (.ref qs) (.int (p : Int)) h = .ok (iD s.2) h := by
  rw [ixM_ref w.2, atI_of (x := iD s.2) (by rw [List.getElem?_map, e]; rfl)]
theorem ev_law_any_point {szs : List (Nat × Nat)} {n qe qs p : Nat} {s : Nat × Nat} {ch : Bool} {h : IH} (w : St n h) (hn : n + 14 ≤ NM) (sz : Sz qe qs szs h) (qe2 : 2 ≤ qe) (qs2 : 2 ≤ qs) (es : szs[p]? = some s) (ok : ∀ s ∈ szs, okAs s) (l4 : szs.length ≤ 4) :
    ∃ (x : Pt) (h' : IH), F__law_any_point [.ref 1, .ref qe, .ref qs, .int (p : Int), .bl ch] h = .ok (dPt x) h' ∧ OkS szs s.1 s.2 x ∧ Gw (n + 14) h h' := by
  obtain ⟨s3, m0, m10⟩ := ok s (List.mem_of_getElem? es)
  obtain ⟨d, h1, e1, c1, g1, l1⟩ := ev_dr (k := 8) w (by omega)
  have done : ∀ (x : Pt) (h2 : IH), F__law_any_point [.ref 1, .ref qe, .ref qs, .int (p : Int), .bl ch] h = trunc h (.ok (dPt x) h2) → OkS szs s.1 s.2 x → Gw (n + 14) h h2 → ∃ (x : Pt) (h' : IH), F__law_any_point [.ref 1, .ref qe, .ref qs, .int (p : Int), .bl ch] h = .ok (dPt x) h' ∧ OkS szs s.1 s.2 x ∧ Gw (n + 14) h h' := fun x h2 e o G => by
    obtain ⟨h', et, G'⟩ := trunc_gw (d := dPt x) w (by omega) G
    exact ⟨x, h', e.trans et, o, G'⟩
  have i0 := sz.sz es
  have sz1 := sz.gw g1 qe2 qs2
  by_cases d2 : (d : Int) < 2
  · obtain ⟨a, h2, e2, c2, g2, _⟩ := ev_dr (k := 4) g1.st (by omega)
    obtain ⟨ws, q, h3, e3, hq, q2, wl, w1, wS, g3⟩ := ev_law_chances (m := 1 + a) g2.st (by omega) (by omega) (by omega)
    obtain ⟨bs, h4, e4, al, g4⟩ := lcV_gw (f := d60) (r := dB) (P := fun (w : Nat) (b : Rat × Nat) => b.1 = Rat.divInt (w : Int) ((60 : Nat) : Int) ∧ b.2 < s.2) (g := gnameM 10) (me := tupM (aconsM (varM 10) (aconsM (callM F__law_next (aconsM (varM 0) (aconsM (varM 5) anilM))) anilM)))
      (env := [some (.ref 1), some (.ref qe), some (.ref qs), some (.int (p : Int)), some (.bl ch), some (iD s.2), some (.int (d : Int)), some (.ref q), none, none, none, none]) (c := 1) hq q2 (by
        intro b hb m h gm hm
        obtain ⟨x, h', e, c, gd, _⟩ := ev_draw (m := s.2) gm.st (by unfold NM at hm; omega) (by omega) (by omega)
        have e' : F__law_next [.ref 1, iD s.2] h = _ := e
        have od : okV h (d60 b) = .ok (d60 b) h := rfl
        exact ⟨_, (Rat.divInt (b : Int) ((60 : Nat) : Int), x), h', rfl, by simp [okV_iD, od, e', tupM_eq, dB]; rfl, ⟨rfl, c⟩, gd⟩) 0 MOST (n + 6) h3 (by unfold MOST; omega) (by omega) (by omega) (.refl (g3.st.mono (by omega)))
    rw [List.drop_zero] at al
    have e5 := lcM_live (mi := seqI (varM 7)) (own := [10]) (env := [some (.ref 1), some (.ref qe), some (.ref qs), some (.int (p : Int)), some (.bl ch), some (iD s.2), some (.int (d : Int)), some (.ref q), none, none, none, none]) (h := h3) (h1 := h3) (v := viewL q) (by simp [srcOf_ref hq]) e4
    have G4 : Gw (n + 14) h h4 := ((g1.trans g2).trans (g3.trans (g4.mono (m := n + 14) (by omega)))).mono (by omega)
    refine done (.draw bs) (h4 ++ [.lst (bs.map dB)]) ?_ ⟨by rw [al.length]; omega, by rw [al.length]; omega, ?_, ?_⟩ (G4.trans (.app G4.st))
    · have e3' : F__law_chances [.ref 1, .int (1 + (a : Int))] h2 = .ok (.ref q) h3 := by
        have : ((1 + a : Nat) : Int) = 1 + (a : Int) := by push_cast; rfl
        rw [← this]
        exact e3
      simp [F__law_any_point, M__law_any_point, defM, i0, e1, d2, e2, e3', e5, tupleF_new, tupM_eq]
      rfl
    · refine al.imp (Q := fun w b => OkB s.2 b) (fun w hw b q => ?_) |>.all (Q := fun b => OkB s.2 b) (fun _ _ p => p)
      have := ok60_fin ⟨w, by have := (w1 w hw).2; omega⟩ (w1 w hw).1
      dsimp only at this
      rw [show (60 : Int) = ((60 : Nat) : Int) from rfl, ← q.1] at this
      exact ⟨this.1, this.2.1, this.2.2, q.2⟩
    · unfold sumR
      rw [sum_al (T := 60) al, wS]
      grind
  by_cases c3 : (d : Int) = 2 ∧ ch = true
  · obtain ⟨d3, rfl⟩ := c3
    obtain ⟨b, h2, e2, c2, g2, l2⟩ := ev_dr (k := 4) g1.st (by omega)
    obtain ⟨ps, h3, e3, pl, pm, g3⟩ := lc_draws (l := 1 + b) (h := h1) (h1 := h2) (ms := aconsM (binM addM (constM (.int 1)) (callM F__law_next (aconsM (varM 0) (aconsM (constM (.int 4)) anilM)))) anilM) (own := [11]) (i := 11) (me := callM F__law_next (aconsM (varM 0) (aconsM (varM 5) anilM))) (env := [some (.ref 1), some (.ref qe), some (.ref qs), some (.int (p : Int)), some (.bl true), some (iD s.2), some (.int (d : Int)), none, none, none, none, none]) (many := s.2) g2.st (by omega) (by omega) (by simp [e2]) (by omega) (by omega) (fun k h => by simp [wipeE, okV_iD]; rfl)
    have G3 : Gw (n + 14) h h3 := ((g1.trans g2).trans g3).mono (by omega)
    refine done (.choose ps) (h3 ++ [.lst (ps.map iD)]) ?_ ⟨by omega, by omega, pm⟩ (G3.trans (.app G3.st))
    rw [d3] at e3
    simp [F__law_any_point, M__law_any_point, defM, i0, e1, d3, e3, tupleF_new, tupM_eq]
    rfl
  have c3' : (if (d : Int) = 2 then ch else false) = false := by
    by_cases z : (d : Int) = 2
    · rw [if_pos z]
      cases ch
      · rfl
      · exact absurd ⟨z, rfl⟩ c3
    · rw [if_neg z]
  by_cases d5 : (d : Int) < 5
  · have ln : lenF [.ref qe] h1 = .ok (.int (szs.length : Int)) h1 := by rw [lenF_ref sz1.1]; simp
    have sl : 0 < szs.length := by
      have := (List.getElem?_eq_some_iff.mp es).1
      omega
    obtain ⟨a, h2, e2, c2, g2, l2⟩ := ev_dr (k := (szs.length : Int)) g1.st (by omega) (by omega) (by omega)
    have ha : a < szs.length := by omega
    have ea : szs[a]? = some szs[a] := List.getElem?_eq_getElem ha
    have oa := ok szs[a] (List.getElem_mem ha)
    have ix := (sz1.gw g2 qe2 qs2).ex ea
    obtain ⟨ps, h3, e3, pl, pm, g3⟩ := lc_draws (l := szs[a].1) (h := h2) (h1 := h2) (ms := aconsM (binM ixM (varM 1) (varM 8)) anilM) (own := [11]) (i := 11) (me := callM F__law_next (aconsM (varM 0) (aconsM (varM 5) anilM))) (env := [some (.ref 1), some (.ref qe), some (.ref qs), some (.int (p : Int)), some (.bl ch), some (iD s.2), some (.int (d : Int)), none, some (.int (a : Int)), none, none, none]) (many := s.2) g2.st (by have := oa.1; omega) (by have := oa.1; omega) (by simp [ix]; rfl) (by omega) (by omega) (fun k h => by simp [wipeE, okV_iD]; rfl)
    have G3 : Gw (n + 14) h h3 := ((g1.trans g2).trans g3).mono (by have := oa.1; omega)
    refine done (.call a ps) (h3 ++ [.lst (ps.map iD)]) ?_ ⟨szs[a], ea, pl, pm⟩ (G3.trans (.app G3.st))
    by_cases z : (d : Int) = 2
    · rw [if_pos z] at c3'
      subst c3'
      rw [z] at e3
      simp [F__law_any_point, M__law_any_point, defM, i0, e1, z, ln, e2, e3, tupleF_new, tupM_eq]
      rfl
    · simp [F__law_any_point, M__law_any_point, defM, i0, e1, d2, z, d5, ln, e2, e3, tupleF_new, tupM_eq]
      rfl
  have z2 : ¬ (d : Int) = 2 := by omega
  have ex1 := sz1.ex es
  have gt : ∀ h, gtM (iD s.1) (.int 0) h = .ok (.bl (decide ((0 : Int) < (s.1 : Int)))) h := fun h => rfl
  by_cases c5 : (d : Int) = 5 ∧ (0 : Int) < (s.1 : Int)
  · obtain ⟨z5, x0⟩ := c5
    rw [decide_eq_true x0] at gt
    obtain ⟨a, h2, e2, c2, g2, l2⟩ := ev_draw (m := s.1) g1.st (by unfold NM at hn; omega) (by omega) (by omega)
    have e2' : F__law_next [.ref 1, iD s.1] h1 = _ := e2
    refine done (.exit a) h2 ?_ c2 ((g1.trans g2).mono (by omega))
    simp [F__law_any_point, M__law_any_point, defM, i0, e1, z5, ex1, gt, e2', tupM_eq]
    rfl
  by_cases d6 : (d : Int) = 6
  · obtain ⟨a, h2, e2, c2, g2, _⟩ := ev_dr (k := 1001) g1.st (by omega)
    obtain ⟨b, h3, e3, c3, g3, _⟩ := ev_dr (k := 12) g2.st (by omega)
    obtain ⟨x, h4, e4, c4, g4, _⟩ := ev_draw (m := s.2) g3.st (by unfold NM at hn; omega) (by omega) (by omega)
    have e4' : F__law_next [.ref 1, iD s.2] h3 = _ := e4
    have el := fun h => ev_law_lowR (h := h) (n := (a : Int)) (d := 1 + (b : Int)) (k := 5) (by omega) (Bit.pos (by omega) (by omega))
    have od : ∀ h, okV h (dr (Rat.divInt (a : Int) (1 + (b : Int)))) = .ok (dr (Rat.divInt (a : Int) (1 + (b : Int)))) h := fun h => rfl
    refine done (.reward (Rat.divInt (a : Int) (1 + (b : Int))) x) h4 ?_ ?_ (((g1.trans g2).trans (g3.trans g4)).mono (by omega))
    · simp [F__law_any_point, M__law_any_point, defM, i0, e1, d6, e2, e3, el, od, okV_iD, e4', tupM_eq]
      rfl
    · have := am_den (a := a) (b := 1 + b) (by omega)
      have hb : ((1 + b : Nat) : Int) = 1 + (b : Int) := by push_cast; rfl
      rw [hb] at this
      exact ⟨this.2.1, by omega, by omega, c4⟩
  · obtain ⟨a, h2, e2, c2, g2, _⟩ := ev_dr (k := 2) (h := h1 ++ [.lst [.tup [.str "reject"], .tup [.str "stop"]]]) (g1.st.app) (by omega)
    have G1 : Gw (n + 14) h h2 := ((g1.trans (.app g1.st)).trans g2).mono (by omega)
    have hl : h2[h1.length]? = some (.lst [.tup [.str "reject"], .tup [.str "stop"]]) := g2.get (by simp) (by have := g1.st.lt; omega)
    have five : ∀ b : Bool, (if (d : Int) = 5 then decide ((0 : Int) < (s.1 : Int)) else false) = false := fun _ => by
      by_cases z : (d : Int) = 5
      · rw [if_pos z]; exact decide_eq_false fun q => c5 ⟨z, q⟩
      · rw [if_neg z]
    have fin : ∀ x : Pt, atI [D.tup [.str "reject"], .tup [.str "stop"]] (a : Int) = some (dPt x) → OkS szs s.1 s.2 x → ∃ (x : Pt) (h' : IH), F__law_any_point [.ref 1, .ref qe, .ref qs, .int (p : Int), .bl ch] h = .ok (dPt x) h' ∧ OkS szs s.1 s.2 x ∧ Gw (n + 14) h h' := fun x hx o => by
      refine done x h2 ?_ o G1
      have ix := ixM_ref (x := (a : Int)) hl
      rw [hx] at ix
      by_cases z : (d : Int) = 5
      · have x0 : ¬ (0 : Int) < (s.1 : Int) := fun q => c5 ⟨z, q⟩
        have gt' : ∀ h, gtM (iD s.1) (.int 0) h = .ok (.bl false) h := fun h => by rw [gt, decide_eq_false x0]
        simp [F__law_any_point, M__law_any_point, defM, i0, e1, z, ex1, gt', lstM_eq, newL_eq, tupM_eq, e2, ix]
      · simp [F__law_any_point, M__law_any_point, defM, i0, e1, d2, z2, d5, z, d6, lstM_eq, newL_eq, tupM_eq, e2, ix]
    have : a = 0 ∨ a = 1 := by omega
    rcases this with rfl | rfl
    · exact fin .reject (by rw [show ((0 : Nat) : Int) = 0 from rfl, atI_0] <;> rfl) trivial
    · exact fin .stop (by rw [show ((1 : Nat) : Int) = 1 from rfl, atI_1] <;> rfl) trivial
end Zc
/-! G3C: any graphs drawn. -/
namespace Zc
open PySem L2 Z Q
theorem okG_of {g : Gr} (l1 : 1 ≤ g.length) (l4 : g.length ≤ 4) (sz : ∀ p ∈ g, okAs (szP p)) (pt : ∀ p ∈ g, ∀ x ∈ p.pts, OkS (g.map szP) p.ex p.pts.length x) : OkG g :=
  ⟨l1, by omega, fun p hp => (sz p hp).1, fun p hp => (sz p hp).2.1, fun p hp => by have := (sz p hp).2.2; unfold szP at this; dsimp only at this; omega,
    by have := sum_le (k := 10) (f := fun p : Pr => p.pts.length) (xs := g) fun p hp => (sz p hp).2.2; omega, fun p hp x hx => okPt_of (pt p hp x hx)⟩
noncomputable def anB : MS := seqM (setM 8 (lcM (rngI1 (aconsM (binM ixM (varM 5) (varM 7)) anilM)) [11] (gnameM 11) yesM (callM F__law_any_point (aconsM (varM 0) (aconsM (varM 4) (aconsM (varM 5) (aconsM (varM 7) (aconsM (varM 3) anilM))))))))
  (exprM (methM appendF (varM 6) (aconsM (tupM (aconsM (binM ixM (varM 4) (varM 7)) (aconsM (callM tupleF (aconsM (varM 8) anilM)) anilM))) anilM)))
def AnI (n qe qs q6 : Nat) (m t : D) (ch : Bool) (szs : List (Nat × Nat)) (h0 : IH) (i : Nat) (e : Ev) (h : IH) : Prop := ∃ (g : List Pr) (x y : Option D), e = [some (.ref 1), some m, some t, some (.bl ch), some (.ref qe), some (.ref qs), some (.ref q6), x, y, none, none, none] ∧ Sz qe qs szs h ∧ h[q6]? = some (.lst (g.map dP)) ∧ g.map szP = szs.take i ∧ (∀ p ∈ g, ∀ x ∈ p.pts, OkS szs p.ex p.pts.length x) ∧ Gw (n + 140 * i) h0 h
theorem an_step {n qe qs q6 : Nat} {m t : D} {ch : Bool} {szs : List (Nat × Nat)} {h0 : IH} (hn : n + 700 ≤ NM) (e2 : 2 ≤ qe) (s2 : 2 ≤ qs) (q2 : 2 ≤ q6) (l6 : h0.length ≤ q6) (ne : qe ≠ q6) (ns : qs ≠ q6) (ok : ∀ s ∈ szs, okAs s) (sl : szs.length ≤ 4) {i : Nat} {e : Ev} {h : IH} (hi : i < szs.length) (w : AnI n qe qs q6 m t ch szs h0 i e h) :
    ∃ e2 h2, anB (e.set 7 (some (.int (i : Int)))) h = .nx e2 h2 ∧ AnI n qe qs q6 m t ch szs h0 (i + 1) e2 h2 := by
  obtain ⟨g, x, y, rfl, sz, h6, hg, hp, gw⟩ := w
  have es : szs[i]? = some szs[i] := List.getElem?_eq_getElem hi
  have oi := ok szs[i] (List.getElem_mem hi)
  have gl : g.length = i := by
    have := congrArg List.length hg
    simp at this
    omega
  have hr := rngI1_int (j := ((szs[i].2 : Nat) : Int)) (n := szs[i].2) (h := h) (h' := h) (ms := aconsM (binM ixM (varM 5) (varM 7)) anilM) (env := [some (.ref 1), some m, some t, some (.bl ch), some (.ref qe), some (.ref qs), some (.ref q6), some (.int (i : Int)), y, none, none, none]) (by simp [sz.sz es]; rfl) (by omega) (by omega) (by have := oi.2.2; omega)
  rw [rngD_map] at hr
  obtain ⟨xs, h1, e1, al, g1⟩ := lcS_gw (f := iD) (r := dPt) (P := fun _ x => OkS szs szs[i].1 szs[i].2 x) (g := gnameM 11) (me := callM F__law_any_point (aconsM (varM 0) (aconsM (varM 4) (aconsM (varM 5) (aconsM (varM 7) (aconsM (varM 3) anilM))))))
    (env := [some (.ref 1), some m, some t, some (.bl ch), some (.ref qe), some (.ref qs), some (.ref q6), some (.int (i : Int)), y, none, none, none]) (h0 := h) (c := 14) (List.range szs[i].2) (n + 140 * i) h (by rw [List.length_range]; have := oi.2.2; omega) (.refl gw.st) (by
      intro b _ k h' gk hk
      obtain ⟨x, h2, e2, o, g2⟩ := ev_law_any_point (szs := szs) (qe := qe) (qs := qs) (p := i) (ch := ch) gk.st hk (sz.gw gk e2 s2) e2 s2 es ok sl
      exact ⟨[some (.ref 1), some m, some t, some (.bl ch), some (.ref qe), some (.ref qs), some (.ref q6), some (.int (i : Int)), y, none, none, some (iD b)], x, h2, rfl, by simp [e2], o, g2⟩)
  rw [List.length_range] at g1
  have xl := al.length
  rw [List.length_range] at xl
  have e3 := lcM_snap (own := [11]) (env := [some (.ref 1), some m, some t, some (.bl ch), some (.ref qe), some (.ref qs), some (.ref q6), some (.int (i : Int)), y, none, none, none]) hr (by unfold MOST; simp; have := oi.2.2; omega) e1
  have G0 : Gw (n + 140 * (i + 1)) h h1 := g1.mono (by have := oi.2.2; omega)
  have G1 : Gw (n + 140 * (i + 1)) h (h1 ++ [.lst (xs.map dPt)]) := G0.trans (.app G0.st)
  have h62 := G1.get h6 q2
  have sz2 := sz.gw G1 e2 s2
  have ap := append_ref (d := dP ⟨szs[i].1, xs⟩) h62 (by simp; omega)
  have em : g.map dP ++ [dP ⟨szs[i].1, xs⟩] = (g ++ [(⟨szs[i].1, xs⟩ : Pr)]).map dP := by simp
  rw [em] at ap
  have mm := methM_ref (m := appendF) (mo := varM 6) (ms := aconsM (tupM (aconsM (binM ixM (varM 4) (varM 7)) (aconsM (callM tupleF (aconsM (varM 8) anilM)) anilM))) anilM) (env := [some (.ref 1), some m, some t, some (.bl ch), some (.ref qe), some (.ref qs), some (.ref q6), some (.int (i : Int)), some (.ref h1.length), none, none, none]) (h := h1 ++ [.lst (xs.map dPt)]) (h1 := h1 ++ [.lst (xs.map dPt)]) (n := q6) (xs := g.map dP) (ds := [dP ⟨szs[i].1, xs⟩]) (h2 := h1 ++ [.lst (xs.map dPt)]) (by simp) h62 (by simp [sz2.ex es, tupleF_new, tupM_eq]; rfl)
  rw [ap] at mm
  refine ⟨[some (.ref 1), some m, some t, some (.bl ch), some (.ref qe), some (.ref qs), some (.ref q6), some (.int (i : Int)), some (.ref h1.length), none, none, none], (h1 ++ [IO.lst (xs.map dPt)]).set q6 (.lst ((g ++ [(⟨szs[i].1, xs⟩ : Pr)]).map dP)), by simp [anB, e3, -rngI1_eq, mm, -List.map_append], g ++ [(⟨szs[i].1, xs⟩ : Pr)], _, _, rfl, ?_, by rw [List.getElem?_set_self (List.getElem?_eq_some_iff.mp h62).1], ?_, ?_, (gw.trans G1).set l6 q2⟩
  · exact ⟨by rw [List.getElem?_set_ne (by omega)]; exact sz2.1, by rw [List.getElem?_set_ne (by omega)]; exact sz2.2⟩
  · rw [List.map_append, hg, List.take_add_one, es]
    show _ ++ [(szs[i].1, xs.length)] = _
    rw [xl]
    rfl
  · intro q hq
    rcases List.mem_append.mp hq with hq | hq
    · exact hp q hq
    · rw [List.mem_singleton.mp hq]
      intro x hx
      dsimp only
      rw [xl]
      exact al.all (Q := fun x => OkS szs szs[i].1 szs[i].2 x) (fun _ _ p => p) x hx
theorem ev_law_any {n most pts : Nat} {ch : Bool} {h : IH} (w : St n h) (hn : n + 1000 ≤ NM) (m1 : 1 ≤ most) (m4 : most ≤ 4) (t1 : 1 ≤ pts) (t10 : pts ≤ 10) : ∃ (g : Gr) (h' : IH), F__law_any [.ref 1, .int (most : Int), .int (pts : Int), .bl ch] h = .ok (dG g) h' ∧ OkG g ∧ g.length ≤ 4 ∧ Gw (n + 1000) h h' := by
  obtain ⟨d, h1, e1, c1, g1, l1⟩ := ev_dr (k := (most : Int)) w (by omega) (by omega) (by omega)
  obtain ⟨ps, h2, e2, pl, pm, g2⟩ := lc_draws (l := 1 + d) (h := h) (h1 := h1) (ms := aconsM (binM addM (constM (.int 1)) (callM F__law_next (aconsM (varM 0) (aconsM (varM 1) anilM)))) anilM) (own := [9]) (i := 9) (me := callM F__law_next (aconsM (varM 0) (aconsM (constM (.int 4)) anilM))) (env := [some (.ref 1), some (.int (most : Int)), some (.int (pts : Int)), some (.bl ch), none, none, none, none, none, none, none, none]) (many := 4) g1.st (by omega) (by omega) (by simp [e1]) (by decide) (by decide) (fun k h => by simp [wipeE])
  have q2 := g2.st.lt
  have G2 : Gw (n + 5) h (h2 ++ [.lst (ps.map iD)]) := ((g1.trans g2).trans (.app g2.st)).mono (by omega)
  have hq : (h2 ++ [IO.lst (ps.map iD)])[h2.length]? = some (.lst (ps.map iD)) := by simp
  generalize h2 ++ [IO.lst (ps.map iD)] = h3 at e2 G2 hq
  have l2 : h.length ≤ h2.length := (g1.trans g2).len
  generalize h2.length = qe at e2 hq q2 l2
  obtain ⟨ts, h4, e4, al, g4⟩ := lcV_gw (f := iD) (r := iD) (P := fun _ t => 1 ≤ t ∧ t ≤ pts) (g := gnameM 10) (me := binM addM (constM (.int 1)) (callM F__law_next (aconsM (varM 0) (aconsM (varM 2) anilM)))) (env := [some (.ref 1), some (.int (most : Int)), some (.int (pts : Int)), some (.bl ch), some (.ref qe), none, none, none, none, none, none, none]) (c := 1) hq q2 (by
    intro b hb m h gm hm
    obtain ⟨x, h', e, c, gd, _⟩ := ev_dr (k := (pts : Int)) gm.st hm (by omega) (by omega)
    exact ⟨_, 1 + x, h', rfl, by simp [e, iD], by omega, gd⟩) 0 MOST (n + 5) h3 (by unfold MOST; omega) (by omega) (by omega) (.refl G2.st)
  rw [List.drop_zero] at al
  have e5 := lcM_live (mi := seqI (varM 4)) (own := [10]) (env := [some (.ref 1), some (.int (most : Int)), some (.int (pts : Int)), some (.bl ch), some (.ref qe), none, none, none, none, none, none, none]) (h := h3) (h1 := h3) (v := viewL qe) (by simp [srcOf_ref hq]) e4
  have tl := al.length
  have G4 : Gw (n + 9) h (h4 ++ [.lst (ts.map iD)]) := ((G2.trans g4).trans (.app g4.st)).mono (by omega)
  have hq4 : (h4 ++ [IO.lst (ts.map iD)])[qe]? = some (.lst (ps.map iD)) := (Ap.app (h := h4)).get (g4.get hq q2)
  have hs4 : (h4 ++ [IO.lst (ts.map iD)])[h4.length]? = some (.lst (ts.map iD)) := by simp
  have qlt : qe < h4.length := (List.getElem?_eq_some_iff.mp (g4.get hq q2)).1
  have gt4 : h4.length < (h4 ++ [IO.lst (ts.map iD)]).length := by simp
  generalize h4 ++ [IO.lst (ts.map iD)] = h5 at e5 G4 hq4 hs4 gt4
  generalize h4.length = qs at e5 hs4 qlt gt4
  have sz : Sz qe qs (ps.zip ts) h5 := by
    constructor
    · rw [hq4, show (ps.zip ts).map (fun s => iD s.1) = ((ps.zip ts).map Prod.fst).map iD by simp, List.map_fst_zip (by omega)]
    · rw [hs4, show (ps.zip ts).map (fun s => iD s.2) = ((ps.zip ts).map Prod.snd).map iD by simp, List.map_snd_zip (by omega)]
  have szl : (ps.zip ts).length = 1 + d := by rw [List.length_zip]; omega
  have ok : ∀ s ∈ ps.zip ts, okAs s := fun s hs => by
    have h1 := pm s.1 (List.of_mem_zip hs).1
    have h2 := al.all (Q := fun t => 1 ≤ t ∧ t ≤ pts) (fun _ _ p => p) s.2 (List.of_mem_zip hs).2
    exact ⟨by omega, h2.1, by omega⟩
  generalize ps.zip ts = szs at sz szl ok
  have sz5 : Sz qe qs szs (h5 ++ [.lst []]) := sz.gw (Gw.app G4.st) q2 (by omega)
  obtain ⟨e', h6, e6, g, x, y, rfl, _, q6, hg, hp, g6⟩ := forS_inv (ds := rngD 0 szs.length) (g := gnameM 7) (mb := anB) (AnI (n + 9) qe qs h5.length (.int (most : Int)) (.int (pts : Int)) ch szs h) (by
    intro i e H d wi hd
    obtain ⟨hi, rfl⟩ := rngD_get hd
    have z0 : (0 : Int) + (i : Int) = (i : Int) := by omega
    obtain ⟨e2, H2, r1, r2⟩ := an_step (by omega) q2 (by omega) (by omega) G4.len (by omega) (by omega) ok (by omega) hi wi
    exact ⟨_, rfl, e2, H2, .inl (by rw [z0]; exact r1), r2⟩) szs.length 0 [some (.ref 1), some (.int (most : Int)), some (.int (pts : Int)), some (.bl ch), some (.ref qe), some (.ref qs), some (.ref h5.length), none, none, none, none, none] (h5 ++ [.lst []]) (by rw [Zc.rngD_length]; omega) (by omega) ⟨[], none, none, rfl, sz5, by simp, rfl, (fun _ h => nomatch h), G4.trans (.app G4.st)⟩
  rw [List.drop_zero] at e6
  rw [Zc.rngD_length] at hg g6
  rw [List.take_length] at hg
  subst hg
  rw [List.length_map] at szl g6 e6
  obtain ⟨h', et, G⟩ := trunc_gw (d := dG g) w (by omega) (g6.mono (m := n + 1000) (by omega))
  refine ⟨g, h', ?_, okG_of (by omega) (by omega) (fun p hp => ok _ (List.mem_map_of_mem hp)) hp, by omega, G⟩
  rw [← et]
  have ln : lenF [.ref qe] (h5 ++ [.lst []]) = .ok (.int (g.length : Int)) (h5 ++ [.lst []]) := by rw [lenF_ref sz5.1]; simp
  have r2 := rngI1_int (j := (g.length : Int)) (n := g.length) (h := h5 ++ [.lst []]) (h' := h5 ++ [.lst []]) (ms := aconsM (callM lenF (aconsM (varM 4) anilM)) anilM) (env := [some (.ref 1), some (.int (most : Int)), some (.int (pts : Int)), some (.bl ch), some (.ref qe), some (.ref qs), some (.ref h5.length), none, none, none, none, none]) (by simp [ln]) (by omega) (by omega) (by omega)
  unfold anB at e6
  simp [F__law_any, M__law_any, defM, lstM_eq, newL_eq, e2, e5, -rngI1_eq, r2, e6, tupleF_ref q6]
  rfl
end Zc
/-! G1K: rejecting. -/
namespace Zc
open PySem L2 Z Q
section
variable {h : IH} {g : Gr} {n m : Nat} {cs : List (Nat × Nat)}
theorem isG.ap {h' : IH} (w : isG h n g) (a : Ap h h') : isG h' n g := a.get w
theorem om_place {c : Nat × Nat} {cl me : Str} {mo : ME} {ma : MA} {e : Ev} (hc : cl = "Graph" := by rfl) (hm : me = "is_place" := by rfl) (w : isG h n g) (hi : inG g c) (e1 : mo e h = .ok (.ref n) h) (e2 : ma e h = .ok [dC c] h) : omM cl me F_Graph_is_place mo ma e h = .ok (.bl true) h := by
  subst hc hm
  unfold omM
  rw [e1]
  have l0 : (gF g).lookup ("is_place" : Str) = none := by rfl
  simp [R.bind, insAt_ref w, l0, e2, ev_is_place w hi]
noncomputable def rjB : MS := seqM (setM 4 (lcM (enumI (oneM (aconsM (varM 6) anilM))) [7, 8] (gtupM 2 (gconsM (gnameM 7) (gconsM (gnameM 8) gnilM))) yesM (iteM (btestM (binM (inM false) (tupM (aconsM (varM 3) (aconsM (varM 7) anilM))) (varM 1))) (tupM (aconsM (constM (.str "reject")) anilM)) (varM 8))))
  (exprM (methM appendF (varM 2) (aconsM (tupM (aconsM (varM 5) (aconsM (callM tupleF (aconsM (varM 4) anilM)) anilM))) anilM)))
theorem rj_step {q i : Nat} {x y : Option D} {H : IH} {gs : List Pr} {p : Pr} (hm : H[m]? = some (.lst (cs.map dC))) (hq : H[q]? = some (.lst (gs.map dP))) (gl : gs.length ≤ 1000) (pl : p.pts.length ≤ 1000) :
    ∃ H2, rjB [some (.ref n), some (.ref m), some (.ref q), some (iD i), x, some (iD p.ex), some (.tup (p.pts.map dPt)), none, none, none] H = .nx [some (.ref n), some (.ref m), some (.ref q), some (iD i), some (.ref H.length), some (iD p.ex), some (.tup (p.pts.map dPt)), none, none, none] (H2.set q (.lst ((gs ++ [rjP cs i p]).map dP))) ∧ Ap H H2 := by
  have ei := enumI_tup (h := H) (ma := varM 6) (env := [some (.ref n), some (.ref m), some (.ref q), some (iD i), x, some (iD p.ex), some (.tup (p.pts.map dPt)), none, none, none]) (ds := p.pts.map dPt) (by simp)
  rw [enD_zip] at ei
  have e1 := lcS_map (h := H) (f := fun q : Pt × Nat => D.tup [iD q.2, dPt q.1]) (r := fun q => dPt (if (i, q.2) ∈ cs then .reject else q.1)) (g := gtupM 2 (gconsM (gnameM 7) (gconsM (gnameM 8) gnilM))) (me := iteM (btestM (binM (inM false) (tupM (aconsM (varM 3) (aconsM (varM 7) anilM))) (varM 1))) (tupM (aconsM (constM (.str "reject")) anilM)) (varM 8)) (env := [some (.ref n), some (.ref m), some (.ref q), some (iD i), x, some (iD p.ex), some (.tup (p.pts.map dPt)), none, none, none]) p.pts.zipIdx (fun a _ => by
    refine ⟨[some (.ref n), some (.ref m), some (.ref q), some (iD i), x, some (iD p.ex), some (.tup (p.pts.map dPt)), some (iD a.2), some (dPt a.1), none], rfl, ?_⟩
    have ic := inM_dC (c := (i, a.2)) hm
    unfold dC at ic
    dsimp only at ic
    by_cases c : (i, a.2) ∈ cs
    · simp [okV_iD, okV_dPt, tupM_eq, dC] at ic ⊢
      simp [ic, c, dPt]
    · simp [okV_iD, okV_dPt, tupM_eq, dC] at ic ⊢
      simp [ic, c, okV_dPt])
  have em : p.pts.zipIdx.map (fun q => dPt (if (i, q.2) ∈ cs then .reject else q.1)) = (rjP cs i p).pts.map dPt := by
    unfold rjP
    dsimp only
    rw [List.map_map]
    rfl
  rw [em] at e1
  have e2 := lcM_snap (own := [7, 8]) ei (by simp; unfold MOST; omega) e1
  have hq2 : (H ++ [IO.lst ((rjP cs i p).pts.map dPt)])[q]? = some (.lst (gs.map dP)) := Ap.app.get hq
  have ap := append_ref (d := dP (rjP cs i p)) hq2 (by simp; omega)
  have em : gs.map dP ++ [dP (rjP cs i p)] = (gs ++ [rjP cs i p]).map dP := by simp
  rw [em] at ap
  have mm := methM_ref (m := appendF) (mo := varM 2) (ms := aconsM (tupM (aconsM (varM 5) (aconsM (callM tupleF (aconsM (varM 4) anilM)) anilM))) anilM) (env := [some (.ref n), some (.ref m), some (.ref q), some (iD i), some (.ref H.length), some (iD p.ex), some (.tup (p.pts.map dPt)), none, none, none]) (h := H ++ [.lst ((rjP cs i p).pts.map dPt)]) (h1 := H ++ [.lst ((rjP cs i p).pts.map dPt)]) (n := q) (xs := gs.map dP) (ds := [dP (rjP cs i p)]) (h2 := H ++ [.lst ((rjP cs i p).pts.map dPt)]) (by simp) hq2 (by simp [okV_iD, tupleF_new, tupM_eq]; rfl)
  rw [ap] at mm
  exact ⟨H ++ [.lst ((rjP cs i p).pts.map dPt)], by simp [rjB, e2, mm, -List.map_append], .app⟩
theorem ev_rejecting (w : isG h n g) (hm : h[m]? = some (.lst (cs.map dC))) (cl : cs.length ≤ 1000000) (hc : ∀ c ∈ cs, inG g c) (ok : OkG g) : ∃ (k : Nat) (h' : IH), F_rejecting [.ref n, .ref m] h = .ok (.ref k) h' ∧ isG h' k (rj cs g) ∧ Ap h h' ∧ h.length ≤ k := by
  have a1 := lc_live (h := h) (f := dC) (r := fun _ => .bl true) (g := gnameM 9) (own := [9]) (me := omM "Graph" "is_place" F_Graph_is_place (varM 0) (aconsM (varM 9) anilM)) (ma := varM 1) (env := [some (.ref n), some (.ref m), none, none, none, none, none, none, none, none]) (k := m) (xs := cs) (by simp) hm (by unfold MOST; omega) (fun c hcc => ⟨_, rfl, om_place (c := c) rfl rfl w (hc c hcc) (by simp [wipeE]) (by simp [wipeE]; rfl)⟩)
  have a2 := all_true (h := h) (ds := cs)
  have A1 : Ap h (h ++ [.lst (cs.map fun _ => .bl true)]) := .app
  generalize h ++ [IO.lst (cs.map fun _ => D.bl true)] = h1 at a1 a2 A1
  have A2 : Ap h (h1 ++ [.lst []]) := A1.trans .app
  have en := enumI_tup (h := h1 ++ [.lst []]) (ma := fldM (okF ["Graph"] "procedures") "procedures" (varM 0)) (env := [some (.ref n), some (.ref m), some (.ref h1.length), none, none, none, none, none, none, none]) (ds := g.map dP) (fld_G rfl (by simp) (w.ap A2))
  obtain ⟨e', h3, e3, x3, x4, x5, x6, gs, rfl, q3, rfl, A3⟩ := forS_inv (ds := enD 0 (g.map dP)) (g := gtupM 2 (gconsM (gnameM 3) (gconsM (gtupM 2 (gconsM (gnameM 5) (gconsM (gnameM 6) gnilM))) gnilM))) (mb := rjB) (fun i e H => ∃ (x3 x4 x5 x6 : Option D) (gs : List Pr), e = [some (.ref n), some (.ref m), some (.ref h1.length), x3, x4, x5, x6, none, none, none] ∧ H[h1.length]? = some (.lst (gs.map dP)) ∧ gs = (rj cs g).take i ∧ Ap h H) (by
    rintro i e H d ⟨x3, x4, x5, x6, gs, rfl, hq, rfl, A⟩ hd
    obtain ⟨hi, rfl⟩ := enD_get hd
    obtain ⟨H2, r1, r2⟩ := rj_step (n := n) (i := i) (x := x4) (y := none) (p := g[i]) (A.get hm) hq (by simp; have := ok.l6; rw [rj_len]; omega) (by have := ok.p16 g[i] (List.getElem_mem hi); omega)
    refine ⟨[some (.ref n), some (.ref m), some (.ref h1.length), some (iD i), x4, some (iD g[i].ex), some (.tup (g[i].pts.map dPt)), none, none, none], rfl, _, _, .inl r1, _, _, _, _, (rj cs g).take i ++ [rjP cs i g[i]], rfl, by rw [List.getElem?_set_self (Nat.lt_of_lt_of_le (List.getElem?_eq_some_iff.mp hq).1 r2.len)], ?_, (A.trans r2).set A1.len⟩
    rw [List.take_add_one, rj_get, List.getElem?_eq_getElem hi]
    rfl) g.length 0 [some (.ref n), some (.ref m), some (.ref h1.length), none, none, none, none, none, none, none] (h1 ++ [.lst []]) (by rw [enD_length]; simp) (by omega) ⟨_, _, _, _, [], rfl, by simp, by simp, A2⟩
  rw [List.drop_zero] at e3
  rw [enD_length, List.length_map, List.take_of_length_le (by rw [rj_len]; omega)] at q3
  have mk := mk_Graph (g := rj cs g) (h := h3) (ma := aconsM (callM tupleF (aconsM (varM 2) anilM)) anilM) (env := [some (.ref n), some (.ref m), some (.ref h1.length), x3, x4, x5, x6, none, none, none]) (by simp [tupleF_ref q3]; rfl) (ok_rj ok)
  refine ⟨h3.length, h3 ++ [.ins "Graph" (gF (rj cs g))], ?_, by unfold isG; simp, A3.trans .app, A3.len⟩
  have tl := tyN_ref hm
  unfold rjB at e3
  simp [F_rejecting, M_rejecting, defM, ev_check_graph w, tl, a1, a2, lstM_eq, newL_eq, en, e3, mk]
  exact trunc_new A3.len
end
end Zc
/-! G3D: what a point names. -/
namespace Zc
open PySem L2 Z Q
section
variable {h : IH}
theorem in_call : inM false (.str "call") (.tup [.str "call", .str "reward"]) h = .ok (.bl true) h := by rfl
theorem in_reward : inM false (.str "reward") (.tup [.str "call", .str "reward"]) h = .ok (.bl true) h := by rfl
theorem in_exit : inM false (.str "exit") (.tup [.str "call", .str "reward"]) h = .ok (.bl false) h := by rfl
theorem in_reject : inM false (.str "reject") (.tup [.str "call", .str "reward"]) h = .ok (.bl false) h := by rfl
theorem in_stop : inM false (.str "stop") (.tup [.str "call", .str "reward"]) h = .ok (.bl false) h := by rfl
def tg : Pt → List Nat
  | .draw bs => bs.map Prod.snd
  | .choose ps => ps
  | .call _ ps => ps
  | .reward _ q => [q]
  | _ => []
def tgs (a : Nat) (x : Pt) : List (Nat × Nat) := (tg x).map (fun i => (a, i)) ++ match x with
  | .call q _ => [(q, 0)]
  | _ => []
def wd : Pt → Str
  | .exit _ => "exit" | .draw _ => "draw" | .choose _ => "choose" | .call _ _ => "call" | .reward _ _ => "reward" | .reject => "reject" | .stop => "stop"
theorem ix_wd {x : Pt} : ixM (dPt x) (.int 0) h = .ok (.str (wd x)) h := by cases x <;> simp [dPt, wd]
/-- few items -/
def few (x : Pt) : Prop := (tg x).length ≤ 1000
theorem few_of {g : Gr} {ex many : Nat} (hx : ∀ p ∈ g, p.ex ≤ 3) : ∀ {x : Pt}, OkPt g ex many x → few x
  | .exit _, _ => by simp [few, tg]
  | .draw bs, h => by have := h.2.1; simp [few, tg]; omega
  | .choose ps, h => by have := h.2.1; simp [few, tg]; omega
  | .call q ps, h => by
    obtain ⟨p, h1, h2, _⟩ := h
    have := hx p (List.mem_of_getElem? h1)
    simp [few, tg]; omega
  | .reward _ _, _ => by simp [few, tg]
  | .reject, _ => by simp [few, tg]
  | .stop, _ => by simp [few, tg]
theorem ev_points_of {x : Pt} (fw : few x) : F_points_of [dPt x] h = .ok (.tup ((tg x).map iD)) h := by
  have w := fun h => ix_wd (x := x) (h := h)
  have o := fun h => okV_dPt (x := x) (h := h)
  cases x with
  | draw bs =>
    have i1 : ∀ h, ixM (dPt (.draw bs)) (.int 1) h = .ok (.tup (bs.map dB)) h := fun h => by simp [dPt]
    have fw : bs.length ≤ 1000 := by simpa [few, tg] using fw
    have e := lc_map (h := h) (f := dB) (r := fun b => iD b.2) (mi := seqI (binM ixM (varM 0) (constM (.int 1)))) (own := [1]) (g := gnameM 1) (me := binM ixM (varM 1) (constM (.int 1))) (env := [some (dPt (.draw bs)), none]) (xs := bs) (by simp [o, i1]) (by omega) (fun b _ => ⟨_, rfl, by
      have : okV h (dB b) = .ok (dB b) h := rfl
      simp [wipeE, this, dB]⟩)
    have em : bs.map (fun b => iD b.2) = (tg (.draw bs)).map iD := by simp [tg]
    rw [em] at e
    simp [F_points_of, M_points_of, defM, o, w, wd, w_draw_draw, e, tupleF_new]
    refine trunc_ap .app ?_
    have : pln 3 (.tup ((tg (.draw bs)).map iD)) = true := all_map (fun _ => pln_iD) _
    exact lt_pln 3 _ this
  | choose ps =>
    have i1 : ∀ h, ixM (dPt (.choose ps)) (.int 1) h = .ok (.tup (ps.map iD)) h := fun h => by simp [dPt]
    simp [F_points_of, M_points_of, defM, o, w, wd, w_choose_draw, w_choose_choose, i1, tg]
  | call q ps =>
    have i2 : ∀ h, ixM (dPt (.call q ps)) (.int 2) h = .ok (.tup (ps.map iD)) h := fun h => by simp [dPt]
    simp [F_points_of, M_points_of, defM, o, w, wd, w_call_draw, w_call_choose, tupM_eq, in_call, w_call_call, i2, tg]
  | reward a q =>
    have i2 : ∀ h, ixM (dPt (.reward a q)) (.int 2) h = .ok (iD q) h := fun h => by simp [dPt]
    simp [F_points_of, M_points_of, defM, o, w, wd, w_reward_draw, w_reward_choose, tupM_eq, in_reward, w_reward_call, i2, tg]
  | exit e =>
    simp [F_points_of, M_points_of, defM, o, w, wd, w_exit_draw, w_exit_choose, tupM_eq, in_exit, tg]
  | reject =>
    simp [F_points_of, M_points_of, defM, o, w, wd, w_reject_draw, w_reject_choose, tupM_eq, in_reject, tg]
  | stop =>
    simp [F_points_of, M_points_of, defM, o, w, wd, w_stop_draw, w_stop_choose, tupM_eq, in_stop, tg]
theorem listF_tup' {ds : List D} : listF [.tup ds] h = .ok (.ref h.length) (h ++ [.lst ds]) := rfl
theorem ev_law_points {x : Pt} (fw : few x) : F__law_points [dPt x] h = .ok (.ref h.length) (h ++ [.lst ((tg x).map iD)]) := by
  have w := fun h => ix_wd (x := x) (h := h)
  have o := fun h => okV_dPt (x := x) (h := h)
  cases x with
  | draw bs =>
    have i1 : ∀ h, ixM (dPt (.draw bs)) (.int 1) h = .ok (.tup (bs.map dB)) h := fun h => by simp [dPt]
    have fw : bs.length ≤ 1000 := by simpa [few, tg] using fw
    have e := lc_map (h := h) (f := dB) (r := fun b => iD b.2) (mi := seqI (binM ixM (varM 0) (constM (.int 1)))) (own := [1, 2]) (g := gtupM 2 (gconsM (gnameM 1) (gconsM (gnameM 2) gnilM))) (me := varM 2) (env := [some (dPt (.draw bs)), none, none]) (xs := bs) (by simp [o, i1]) (by omega) (fun b _ => ⟨_, rfl, by simp [wipeE, okV_iD]⟩)
    have em : bs.map (fun b => iD b.2) = (tg (.draw bs)).map iD := by simp [tg]
    rw [em] at e
    simp [F__law_points, M__law_points, defM, o, w, wd, w_draw_draw, e]
    exact trunc_new (Nat.le_refl _)
  | choose ps =>
    have i1 : ∀ h, ixM (dPt (.choose ps)) (.int 1) h = .ok (.tup (ps.map iD)) h := fun h => by simp [dPt]
    simp [F__law_points, M__law_points, defM, o, w, wd, w_choose_draw, w_choose_choose, i1, tg]
    exact trunc_new (Nat.le_refl _)
  | call q ps =>
    have i2 : ∀ h, ixM (dPt (.call q ps)) (.int 2) h = .ok (.tup (ps.map iD)) h := fun h => by simp [dPt]
    simp [F__law_points, M__law_points, defM, o, w, wd, w_call_draw, w_call_choose, w_call_call, i2, tg]
    exact trunc_new (Nat.le_refl _)
  | reward a q =>
    have i2 : ∀ h, ixM (dPt (.reward a q)) (.int 2) h = .ok (iD q) h := fun h => by simp [dPt]
    simp [F__law_points, M__law_points, defM, o, w, wd, w_reward_draw, w_reward_choose, w_reward_call, w_reward_reward, i2, lstM_eq, newL_eq, tg]
    exact trunc_new (Nat.le_refl _)
  | exit e =>
    simp [F__law_points, M__law_points, defM, o, w, wd, w_exit_draw, w_exit_choose, w_exit_call, w_exit_reward, lstM_eq, newL_eq, tg]
    exact trunc_new (Nat.le_refl _)
  | reject =>
    simp [F__law_points, M__law_points, defM, o, w, wd, w_reject_draw, w_reject_choose, w_reject_call, w_reject_reward, lstM_eq, newL_eq, tg]
    exact trunc_new (Nat.le_refl _)
  | stop =>
    simp [F__law_points, M__law_points, defM, o, w, wd, w_stop_draw, w_stop_choose, w_stop_call, w_stop_reward, lstM_eq, newL_eq, tg]
    exact trunc_new (Nat.le_refl _)
end
/-! ### comprehensions that choose -/
theorem lcV_filt {α : Type} {f : α → D} {b : α → Bool} {g : MG} {mt : MT} {me : ME} {env : Ev} {h : IH} {k : Nat} {xs : List α} (hk : h[k]? = some (.lst (xs.map f))) (H : ∀ a ∈ xs, ∃ e, g (f a) env = some e ∧ mt e h = .ok (b a) h ∧ me e h = .ok (f a) h) : ∀ (l fuel : Nat), xs.length - l < fuel → l ≤ xs.length →
    lcV g mt me env (viewL k) fuel l h = .ok (((xs.drop l).filter b).map f) h
  | l, 0, hf, _ => by omega
  | l, fuel + 1, hf, hl => by
    have view : viewL k h = some (xs.map f) := viewL_eq hk
    by_cases c0 : l = xs.length
    · subst c0
      rw [List.drop_length]
      show (match viewL k h with
        | none => R.stuck
        | some ds => match ds[xs.length]? with
          | none => .ok [] h
          | some d => _) = _
      rw [view]
      dsimp only
      rw [List.getElem?_eq_none (by simp)] <;> rfl
    · have hl' : l < xs.length := by omega
      obtain ⟨e, e1, e2, e3⟩ := H xs[l] (List.getElem_mem hl')
      have ih := lcV_filt hk H (l + 1) fuel (by omega) (by omega)
      rw [List.drop_eq_getElem_cons hl', List.filter_cons]
      show (match viewL k h with
        | none => R.stuck
        | some ds => match ds[l]? with
          | none => .ok [] h
          | some d => match g d env with
            | none => .stuck
            | some e => (mt e h).bindG (fun _ _ => .stuck) .stuck fun b h => if b = true then (me e h).bindG (fun _ _ => .stuck) .stuck fun y h => (lcV g mt me env (viewL k) fuel (l + 1) h).bind fun ys h => .ok (y :: ys) h else lcV g mt me env (viewL k) fuel (l + 1) h) = _
      rw [view]
      dsimp only
      rw [List.getElem?_map, List.getElem?_eq_getElem hl']
      dsimp only [Option.map]
      rw [e1]
      dsimp only
      rw [e2]
      simp only [R.bindG_ok]
      by_cases c : b xs[l] = true
      · rw [if_pos c, if_pos c, e3]
        simp only [R.bindG_ok]
        rw [ih]
        rfl
      · rw [if_neg c, if_neg c]
        exact ih
theorem lc_filt {α : Type} {f : α → D} {b : α → Bool} {g : MG} {mt : MT} {me : ME} {own : List Nat} {mi : MI} {env : Ev} {h h1 : IH} {k : Nat} {xs : List α} (e1 : mi env h = .ok (.live (viewL k)) h1) (hk : h1[k]? = some (.lst (xs.map f))) (hl : xs.length < MOST)
    (H : ∀ a ∈ xs, ∃ e, g (f a) (wipeE env own) = some e ∧ mt e h1 = .ok (b a) h1 ∧ me e h1 = .ok (f a) h1) : lcM mi own g mt me env h = .ok (.ref h1.length) (h1 ++ [.lst ((xs.filter b).map f)]) := by
  have e2 := lcV_filt (env := wipeE env own) hk H 0 MOST (by omega) (by omega)
  rw [List.drop_zero] at e2
  unfold lcM
  rw [e1]
  simp only [R.bind, R.bindG_ok, e2]
  rfl
end Zc
/-! G3E: named, on both sides. -/
namespace Zc
open PySem L2 Z Q
def isP (g : Gr) (c : Nat × Nat) (x : Pt) : Prop := ∃ p, g[c.1]? = some p ∧ p.pts[c.2]? = some x
theorem isP.inG {g : Gr} {c : Nat × Nat} {x : Pt} (w : isP g c x) : inG g c := by
  obtain ⟨p, h1, h2⟩ := w
  exact ⟨p, h1, (List.getElem?_eq_some_iff.mp h2).1⟩
theorem isP.few {g : Gr} {c : Nat × Nat} {x : Pt} (ok : OkG g) (w : isP g c x) : few x := by
  obtain ⟨p, h1, h2⟩ := w
  exact few_of ok.ex (ok.pt p (List.mem_of_getElem? h1) x (List.mem_of_getElem? h2))
def nm (g : Gr) (c : Nat × Nat) (x : Pt) : List (Nat × Nat) := (pl g).filter fun o => decide (o ∈ tgs c.1 x)
section
variable {h : IH} {g : Gr} {n : Nat} {c : Nat × Nat} {x : Pt}
theorem om_ap {cl me : Str} {F : MF} {mo : ME} {ma : MA} {e : Ev} {ds : List D} {r : R D} (hc : cl = "Graph" := by rfl) (l0 : (gF g).lookup me = none := by rfl) (w : isG h n g) (e1 : mo e h = .ok (.ref n) h) (e2 : ma e h = .ok ds h) (e3 : F (.ref n :: ds) h = r) : omM cl me F mo ma e h = r := by
  subst hc
  unfold omM
  rw [e1]
  simp [R.bind, insAt_ref w, l0, e2, e3]
theorem ev_check_place (w : isG h n g) (hc : inG g c) : F_Graph_check_place [.ref n, dC c] h = .ok .non h := by
  have oc : ∀ h, okV h (dC c) = .ok (dC c) h := fun h => rfl
  have e := om_ap (h := h) (cl := "Graph") (me := "is_place") (F := F_Graph_is_place) (mo := varM 0) (ma := aconsM (varM 1) anilM) (e := [some (.ref n), some (dC c)]) rfl rfl w (by simp) (by simp [oc]) (ev_is_place w hc)
  simp [F_Graph_check_place, M_Graph_check_place, defM, e]
theorem ev_point_at (w : isG h n g) (hx : isP g c x) : F_Graph_point_at [.ref n, dC c] h = .ok (dPt x) h := by
  have oc : ∀ h, okV h (dC c) = .ok (dC c) h := fun h => rfl
  have e := om_ap (h := h) (cl := "Graph") (me := "check_place") (F := F_Graph_check_place) (mo := varM 0) (ma := aconsM (varM 1) anilM) (e := [some (.ref n), some (dC c)]) rfl rfl w (by simp) (by simp [oc]) (ev_check_place w hx.inG)
  obtain ⟨p, h1, h2⟩ := hx
  have f := fld_G (f := "procedures") (ma := varM 0) (env := [some (.ref n), some (dC c)]) (h := h) (g := g) rfl (by simp) w
  have ix := fun h => ixM_dG (h := h) h1
  have ix2 : ∀ h, ixM (.tup (p.pts.map dPt)) (iD c.2) h = .ok (dPt x) h := fun h => by rw [ixM_iD, List.getElem?_map, h2]; rfl
  simp [F_Graph_point_at, M_Graph_point_at, defM, e, f, oc, ixM_dC0, ixM_dC1, ix, ixM_dP1, ix2, okV_dPt]
/-- the targets stand in a list -/
theorem tgs_list (a : Nat) (x : Pt) : (tgs a x).map dC = (tg x).map (fun i => dC (a, i)) ++ match x with
  | .call q _ => [dC (q, 0)]
  | _ => [] := by
  unfold tgs
  cases x <;> simp
theorem not_call {h : IH} : ∀ {x : Pt}, (∀ q ps, x ≠ .call q ps) → eqM (.str (wd x)) (.str "call") h = .ok (.bl false) h
  | .exit _, _ => w_exit_call
  | .draw _, _ => w_draw_call
  | .choose _, _ => w_choose_call
  | .call q ps, n => absurd rfl (n q ps)
  | .reward _ _, _ => w_reward_call
  | .reject, _ => w_reject_call
  | .stop, _ => w_stop_call
theorem ev_named (w : isG h n g) (ok : OkG g) (hx : isP g c x) : ∃ (k : Nat) (h' : IH), F_Graph_named [.ref n, dC c] h = .ok (.ref k) h' ∧ h'[k]? = some (.lst ((nm g c x).map dC)) ∧ Ap h h' ∧ h.length ≤ k := by
  have fw := hx.few ok
  have oc : ∀ h, okV h (dC c) = .ok (dC c) h := fun h => rfl
  have e1 := om_ap (h := h) (cl := "Graph") (me := "point_at") (F := F_Graph_point_at) (mo := varM 0) (ma := aconsM (varM 1) anilM) (e := [some (.ref n), some (dC c), none, none, none, none]) rfl rfl w (by simp) (by simp [oc]) (ev_point_at w hx)
  have ep := fun h => ev_points_of (h := h) fw
  have e2 := lc_map (h := h) (f := iD) (r := fun i => dC (c.1, i)) (mi := seqI (callM F_points_of (aconsM (varM 2) anilM))) (own := [4]) (g := gnameM 4) (me := tupM (aconsM (binM ixM (varM 1) (constM (.int 0))) (aconsM (varM 4) anilM))) (env := [some (.ref n), some (dC c), some (dPt x), none, none, none]) (xs := tg x) (by simp [okV_dPt, ep]) (by unfold few at fw; omega) (fun i _ => ⟨_, rfl, by simp [wipeE, oc, ixM_dC0, okV_iD, tupM_eq]; rfl⟩)
  -- the list of targets
  obtain ⟨h2, e3, t2, A2⟩ : ∃ h2, ifM (btestM (binM eqM (binM ixM (varM 2) (constM (.int 0))) (constM (.str "call")))) (exprM (methM appendF (varM 3) (aconsM (tupM (aconsM (binM ixM (varM 2) (constM (.int 1))) (aconsM (constM (.int 0)) anilM))) anilM))) nextM [some (.ref n), some (dC c), some (dPt x), some (.ref h.length), none, none] (h ++ [.lst ((tg x).map fun i => dC (c.1, i))]) = .nx [some (.ref n), some (dC c), some (dPt x), some (.ref h.length), none, none] h2 ∧ h2[h.length]? = some (.lst ((tgs c.1 x).map dC)) ∧ Ap h h2 := by
    by_cases q : ∃ q ps, x = .call q ps
    · obtain ⟨q, ps, rfl⟩ := q
      have i1 : ∀ h, ixM (dPt (.call q ps)) (.int 1) h = .ok (iD q) h := fun h => by simp [dPt]
      have ap := append_ref (h := h ++ [.lst ((tg (.call q ps)).map fun i => dC (c.1, i))]) (n := h.length) (xs := (tg (.call q ps)).map fun i => dC (c.1, i)) (d := dC (q, 0)) (by simp) (by unfold few at fw; simp; omega)
      have mm := methM_ref (m := appendF) (mo := varM 3) (ms := aconsM (tupM (aconsM (binM ixM (varM 2) (constM (.int 1))) (aconsM (constM (.int 0)) anilM))) anilM) (env := [some (.ref n), some (dC c), some (dPt (.call q ps)), some (.ref h.length), none, none]) (h := h ++ [.lst ((tg (.call q ps)).map fun i => dC (c.1, i))]) (h1 := h ++ [.lst ((tg (.call q ps)).map fun i => dC (c.1, i))]) (n := h.length) (xs := (tg (.call q ps)).map fun i => dC (c.1, i)) (ds := [dC (q, 0)]) (h2 := h ++ [.lst ((tg (.call q ps)).map fun i => dC (c.1, i))]) (by simp) (by simp) (by simp [okV_dPt, i1, tupM_eq]; rfl)
      rw [ap] at mm
      refine ⟨(h ++ [IO.lst ((tg (.call q ps)).map fun i => dC (c.1, i))]).set h.length (.lst (((tg (.call q ps)).map fun i => dC (c.1, i)) ++ [dC (q, 0)])), by simp [okV_dPt, ix_wd, wd, w_call_call, mm, -List.map_append], ?_, (Ap.app).set (Nat.le_refl _)⟩
      rw [List.getElem?_set_self (by simp), tgs_list]
    · have nc := fun h => not_call (h := h) (x := x) fun a b e => q ⟨a, b, e⟩
      refine ⟨h ++ [.lst ((tg x).map fun i => dC (c.1, i))], by simp [okV_dPt, ix_wd, nc], ?_, .app⟩
      rw [tgs_list]
      cases x with
      | call a b => exact absurd ⟨a, b, rfl⟩ q
      | _ => simp
  have w2 : isG h2 n g := w.ap A2
  have e4 := om_ap (h := h2) (cl := "Graph") (me := "places") (F := F_Graph_places) (mo := varM 0) (ma := anilM) (e := [some (.ref n), some (dC c), some (dPt x), some (.ref h.length), none, none]) rfl rfl w2 (by simp) (by simp) (ev_places w2 ok)
  have t3 : (h2 ++ [IO.lst ((pl g).map dC)])[h.length]? = some (.lst ((tgs c.1 x).map dC)) := (Ap.app (h := h2)).get t2
  have p3 : (h2 ++ [IO.lst ((pl g).map dC)])[h2.length]? = some (.lst ((pl g).map dC)) := by simp
  have plen : (pl g).length ≤ 40 := by rw [pl_len]; exact ok.all
  have e5 := lc_filt (f := dC) (b := fun o => decide (o ∈ tgs c.1 x)) (g := gnameM 5) (mt := btestM (binM (inM false) (varM 5) (varM 3))) (me := varM 5) (own := [5]) (mi := seqI (omM "Graph" "places" F_Graph_places (varM 0) anilM)) (env := [some (.ref n), some (dC c), some (dPt x), some (.ref h.length), none, none]) (h := h2) (h1 := h2 ++ [.lst ((pl g).map dC)]) (k := h2.length) (xs := pl g) (by simp [e4, srcOf_ref p3]) p3 (by unfold MOST; omega) (fun o _ => ⟨_, rfl, by
      have oo : ∀ h, okV h (dC o) = .ok (dC o) h := fun h => rfl
      simp [wipeE, oo, inM_dC t3], by
      have oo : ∀ h, okV h (dC o) = .ok (dC o) h := fun h => rfl
      simp [wipeE, oo]⟩)
  have A3 : Ap h (h2 ++ [.lst ((pl g).map dC)]) := A2.trans .app
  refine ⟨(h2 ++ [IO.lst ((pl g).map dC)]).length, h2 ++ [.lst ((pl g).map dC)] ++ [.lst ((nm g c x).map dC)], ?_, List.getElem?_concat_length, A3.trans .app, A3.len⟩
  simp only [F_Graph_named, M_Graph_named, defM, seqM_eq, setM_eq, List.map_cons, List.map_nil, List.length_cons, List.length_nil, List.cons_append, List.nil_append, Nat.reduceAdd, Nat.reduceSub, Nat.zero_add, List.replicate]
  rw [e1]
  simp only [R.bindG_ok, List.set]
  rw [e2]
  simp only [R.bindG_ok, List.set]
  rw [e3]
  dsimp only
  rw [retM_eq, e5]
  simp only [R.bindG_ok, finM_rt]
  exact trunc_new A3.len
end
end Zc
/-! G3F: the law's places and what is named by them. -/
namespace Zc
open PySem L2 Z Q
theorem pl_take {g : Gr} {i : Nat} {p : Pr} (e : g[i]? = some p) : pl (g.take (i + 1)) = pl (g.take i) ++ (List.range p.pts.length).map fun j => (i, j) := by
  have hi := (List.getElem?_eq_some_iff.mp e).1
  unfold pl
  rw [List.take_add_one, e, List.zipIdx_append, List.flatMap_append]
  congr 1
  simp [List.length_take, Nat.min_eq_left (Nat.le_of_lt hi)]
noncomputable def plA : MS := exprM (methM appendF (varM 1) (aconsM (tupM (aconsM (varM 2) (aconsM (varM 3) anilM))) anilM))
noncomputable def plB : MS := forM (rngI1 (aconsM (callM lenF (aconsM (binM ixM (binM ixM (varM 0) (varM 2)) (constM (.int 1))) anilM)) anilM)) (gnameM 3) plA
section
variable {h : IH} {g : Gr}
theorem ev_law_places (ok : OkG g) : ∃ h', F__law_places [dG g] h = .ok (.ref h.length) h' ∧ h'[h.length]? = some (.lst ((pl g).map dC)) ∧ Ap h h' := by
  have plen : (pl g).length ≤ 40 := by rw [pl_len]; exact ok.all
  obtain ⟨e', h1, e1, a, b, rfl, q1, A1⟩ := forS_inv (ds := rngD 0 g.length) (g := gnameM 2) (mb := plB) (fun i e H => ∃ a b, e = [some (dG g), some (.ref h.length), a, b] ∧ H[h.length]? = some (.lst ((pl (g.take i)).map dC)) ∧ Ap h H) (by
    rintro i e H d ⟨a, b, rfl, q1, A1⟩ hd
    obtain ⟨hi, rfl⟩ := rngD_get hd
    have z0 : (0 : Int) + (i : Int) = (i : Int) := by omega
    rw [z0]
    have ei : g[i]? = some g[i] := List.getElem?_eq_getElem hi
    have p16 := ok.p16 g[i] (List.getElem_mem hi)
    have ix : ∀ K, ixM (dG g) (.int (i : Int)) K = .ok (dP g[i]) K := fun K => ixM_dG ei
    have short : (pl (g.take i)).length ≤ 1000 := by
      rw [pl_len]
      have := sum_le (k := 16) (f := fun p : Pr => p.pts.length) (xs := g.take i) fun p hp => ok.p16 p (List.mem_of_mem_take hp)
      have := ok.l6
      simp only [List.length_take] at *
      omega
    obtain ⟨e2, h2, r1, b2, rfl, q2, A2⟩ := forS_inv (ds := rngD 0 g[i].pts.length) (g := gnameM 3) (mb := plA) (fun j e K => ∃ b, e = [some (dG g), some (.ref h.length), some (.int (i : Int)), b] ∧ K[h.length]? = some (.lst ((pl (g.take i) ++ (List.range j).map fun j => (i, j)).map dC)) ∧ Ap h K) (by
      rintro j e K d ⟨b, rfl, q1, A1⟩ hd
      obtain ⟨hj, rfl⟩ := rngD_get hd
      have z0 : (0 : Int) + (j : Int) = (j : Int) := by omega
      rw [z0]
      have ap := append_ref (d := dC (i, j)) q1 (by simp; omega)
      have em : (pl (g.take i) ++ (List.range j).map fun j => (i, j)).map dC ++ [dC (i, j)] = (pl (g.take i) ++ (List.range (j + 1)).map fun j => (i, j)).map dC := by rw [List.range_succ]; simp
      rw [em] at ap
      have mm := methM_ref (m := appendF) (mo := varM 1) (ms := aconsM (tupM (aconsM (varM 2) (aconsM (varM 3) anilM))) anilM) (env := [some (dG g), some (.ref h.length), some (.int (i : Int)), some (.int (j : Int))]) (h := K) (h1 := K) (n := h.length) (ds := [dC (i, j)]) (h2 := K) (by simp) q1 (by simp [tupM_eq]; rfl)
      rw [ap] at mm
      exact ⟨_, rfl, [some (dG g), some (.ref h.length), some (.int (i : Int)), some (.int (j : Int))], _, .inl (by simp only [plA, exprM_eq, List.set]; rw [mm]; rfl), _, rfl, List.getElem?_set_self (List.getElem?_eq_some_iff.mp q1).1, A1.set (Nat.le_refl _)⟩) g[i].pts.length 0 [some (dG g), some (.ref h.length), some (.int (i : Int)), b] H (by rw [Zc.rngD_length]; omega) (by omega) ⟨_, rfl, by simpa using q1, A1⟩
    rw [List.drop_zero] at r1
    rw [Zc.rngD_length, ← pl_take ei] at q2
    have hr := rngI1_int (j := (g[i].pts.length : Int)) (n := g[i].pts.length) (h := H) (h' := H) (ms := aconsM (callM lenF (aconsM (binM ixM (binM ixM (varM 0) (varM 2)) (constM (.int 1))) anilM)) anilM) (env := [some (dG g), some (.ref h.length), some (.int (i : Int)), b]) (by simp [okV_dG, ix, ixM_dP1]) (by omega) (by omega) (by omega)
    exact ⟨_, rfl, [some (dG g), some (.ref h.length), some (.int (i : Int)), b2], h2, .inl (by simp only [plB, forM_eq, List.set]; rw [hr]; exact r1), _, _, rfl, q2, A2⟩) g.length 0 [some (dG g), some (.ref h.length), none, none] (h ++ [.lst []]) (by rw [Zc.rngD_length]; omega) (by omega) ⟨_, _, rfl, by simp [pl], .app⟩
  rw [List.drop_zero] at e1
  rw [Zc.rngD_length, List.take_of_length_le (Nat.le_refl _)] at q1
  refine ⟨h1, ?_, q1, A1⟩
  have hr := rngI1_int (j := (g.length : Int)) (n := g.length) (h := h ++ [.lst []]) (h' := h ++ [.lst []]) (ms := aconsM (callM lenF (aconsM (varM 0) anilM)) anilM) (env := [some (dG g), some (.ref h.length), none, none]) (by simp [okV_dG, lenF_dG]) (by omega) (by omega) (by have := ok.l6; omega)
  unfold plB plA at e1
  simp [F__law_places, M__law_places, defM, lstM_eq, newL_eq, hr, -rngI1_eq, e1]
  exact trunc_new (Nat.le_refl _)
variable {c : Nat × Nat} {x : Pt}
theorem ev_law_named (ok : OkG g) (hx : isP g c x) : ∃ (k : Nat) (h' : IH), F__law_named [dG g, dC c] h = .ok (.ref k) h' ∧ h'[k]? = some (.lst ((nm g c x).map dC)) ∧ Ap h h' ∧ h.length ≤ k := by
  have fw := hx.few ok
  have oc : ∀ h, okV h (dC c) = .ok (dC c) h := fun h => rfl
  have ep := fun h => ev_law_points (h := h) fw
  have pt : ∀ h, binM ixM (binM ixM (binM ixM (varM 0) (binM ixM (varM 1) (constM (.int 0)))) (constM (.int 1))) (binM ixM (varM 1) (constM (.int 1))) [some (dG g), some (dC c), none, none, none, none] h = .ok (dPt x) h := fun h => by
    obtain ⟨p, h1, h2⟩ := hx
    have ix := fun h => ixM_dG (h := h) h1
    have ix2 : ∀ h, ixM (.tup (p.pts.map dPt)) (iD c.2) h = .ok (dPt x) h := fun h => by rw [ixM_iD, List.getElem?_map, h2]; rfl
    simp [oc, okV_dG, ixM_dC0, ixM_dC1, ix, ixM_dP1, ix2]
  have hp : (h ++ [IO.lst ((tg x).map iD)])[h.length]? = some (.lst ((tg x).map iD)) := by simp
  have e2 : lcM (seqI (callM F__law_points (aconsM (varM 2) anilM))) [4] (gnameM 4) yesM (tupM (aconsM (binM ixM (varM 1) (constM (.int 0))) (aconsM (varM 4) anilM))) [some (dG g), some (dC c), some (dPt x), none, none, none] h = .ok (.ref (h ++ [IO.lst ((tg x).map iD)]).length) (h ++ [.lst ((tg x).map iD)] ++ [.lst ((tg x).map fun i => dC (c.1, i))]) := by
    have := lcV_map (f := iD) (r := fun i => dC (c.1, i)) (g := gnameM 4) (me := tupM (aconsM (binM ixM (varM 1) (constM (.int 0))) (aconsM (varM 4) anilM))) (env := wipeE [some (dG g), some (dC c), some (dPt x), none, none, none] [4]) hp (fun i _ => ⟨_, rfl, by simp [wipeE, oc, ixM_dC0, okV_iD, tupM_eq]; rfl⟩) 0 MOST (by unfold MOST; unfold few at fw; omega) (by omega)
    rw [List.drop_zero] at this
    exact lcM_live (by simp [okV_dPt, ep, srcOf_ref hp]) this
  have A0 : Ap h (h ++ [IO.lst ((tg x).map iD)]) := .app
  generalize h ++ [IO.lst ((tg x).map iD)] = h0 at e2 A0
  obtain ⟨h2, e3, t2, A2⟩ : ∃ h2, ifM (btestM (binM eqM (binM ixM (varM 2) (constM (.int 0))) (constM (.str "call")))) (exprM (methM appendF (varM 3) (aconsM (tupM (aconsM (binM ixM (varM 2) (constM (.int 1))) (aconsM (constM (.int 0)) anilM))) anilM))) nextM [some (dG g), some (dC c), some (dPt x), some (.ref h0.length), none, none] (h0 ++ [.lst ((tg x).map fun i => dC (c.1, i))]) = .nx [some (dG g), some (dC c), some (dPt x), some (.ref h0.length), none, none] h2 ∧ h2[h0.length]? = some (.lst ((tgs c.1 x).map dC)) ∧ Ap h0 h2 := by
    by_cases q : ∃ q ps, x = .call q ps
    · obtain ⟨q, ps, rfl⟩ := q
      have i1 : ∀ h, ixM (dPt (.call q ps)) (.int 1) h = .ok (iD q) h := fun h => by simp [dPt]
      have ap := append_ref (h := h0 ++ [.lst ((tg (.call q ps)).map fun i => dC (c.1, i))]) (n := h0.length) (xs := (tg (.call q ps)).map fun i => dC (c.1, i)) (d := dC (q, 0)) (by simp) (by unfold few at fw; simp; omega)
      have mm := methM_ref (m := appendF) (mo := varM 3) (ms := aconsM (tupM (aconsM (binM ixM (varM 2) (constM (.int 1))) (aconsM (constM (.int 0)) anilM))) anilM) (env := [some (dG g), some (dC c), some (dPt (.call q ps)), some (.ref h0.length), none, none]) (h := h0 ++ [.lst ((tg (.call q ps)).map fun i => dC (c.1, i))]) (h1 := h0 ++ [.lst ((tg (.call q ps)).map fun i => dC (c.1, i))]) (n := h0.length) (xs := (tg (.call q ps)).map fun i => dC (c.1, i)) (ds := [dC (q, 0)]) (h2 := h0 ++ [.lst ((tg (.call q ps)).map fun i => dC (c.1, i))]) (by simp) (by simp) (by simp [okV_dPt, i1, tupM_eq]; rfl)
      rw [ap] at mm
      refine ⟨(h0 ++ [IO.lst ((tg (.call q ps)).map fun i => dC (c.1, i))]).set h0.length (.lst (((tg (.call q ps)).map fun i => dC (c.1, i)) ++ [dC (q, 0)])), by simp [okV_dPt, ix_wd, wd, w_call_call, mm, -List.map_append], ?_, (Ap.app).set (Nat.le_refl _)⟩
      rw [List.getElem?_set_self (by simp), tgs_list]
    · have nc := fun h => not_call (h := h) (x := x) fun a b e => q ⟨a, b, e⟩
      refine ⟨h0 ++ [.lst ((tg x).map fun i => dC (c.1, i))], by simp [okV_dPt, ix_wd, nc], ?_, .app⟩
      rw [tgs_list]
      cases x with
      | call a b => exact absurd ⟨a, b, rfl⟩ q
      | _ => simp
  obtain ⟨h3, e4, p3, A3⟩ := ev_law_places (h := h2) ok
  have t3 := A3.get t2
  have plen : (pl g).length ≤ 40 := by rw [pl_len]; exact ok.all
  have e5 := lc_filt (f := dC) (b := fun o => decide (o ∈ tgs c.1 x)) (g := gnameM 5) (mt := btestM (binM (inM false) (varM 5) (varM 3))) (me := varM 5) (own := [5]) (mi := seqI (callM F__law_places (aconsM (varM 0) anilM))) (env := [some (dG g), some (dC c), some (dPt x), some (.ref h0.length), none, none]) (h := h2) (h1 := h3) (k := h2.length) (xs := pl g) (by simp [okV_dG, e4, srcOf_ref p3]) p3 (by unfold MOST; omega) (fun o _ => ⟨_, rfl, by
      have oo : ∀ h, okV h (dC o) = .ok (dC o) h := fun h => rfl
      simp [wipeE, oo, inM_dC t3], by
      have oo : ∀ h, okV h (dC o) = .ok (dC o) h := fun h => rfl
      simp [wipeE, oo]⟩)
  have A : Ap h h3 := (A0.trans A2).trans A3
  refine ⟨h3.length, h3 ++ [.lst ((nm g c x).map dC)], ?_, List.getElem?_concat_length, A.trans .app, A.len⟩
  simp only [F__law_named, M__law_named, defM, seqM_eq, setM_eq, List.map_cons, List.map_nil, List.length_cons, List.length_nil, List.cons_append, List.nil_append, Nat.reduceAdd, Nat.reduceSub, Nat.zero_add, List.replicate]
  rw [pt]
  simp only [R.bindG_ok, List.set]
  rw [e2]
  simp only [R.bindG_ok, List.set]
  rw [e3]
  dsimp only
  rw [retM_eq, e5]
  simp only [R.bindG_ok, finM_rt]
  exact trunc_new A.len
end
end Zc
/-! G3G: reached, on both sides. -/
namespace Zc
open PySem L2 Z Q
theorem inG_isP {g : Gr} {c : Nat × Nat} (h : inG g c) : ∃ x, isP g c x := by
  obtain ⟨p, h1, h2⟩ := h
  exact ⟨p.pts[c.2], p, h1, List.getElem?_eq_getElem h2⟩
def ptAt (g : Gr) (c : Nat × Nat) : Option Pt := (g[c.1]?).bind fun p => p.pts[c.2]?
theorem ptAt_of {g : Gr} {c : Nat × Nat} {x : Pt} (h : isP g c x) : ptAt g c = some x := by
  obtain ⟨p, h1, h2⟩ := h
  unfold ptAt
  rw [h1]
  exact h2
def new (g : Gr) (L : List (Nat × Nat)) (c : Nat × Nat) : List (Nat × Nat) := match ptAt g c with
  | some x => (nm g c x).filter fun o => !decide (o ∈ L)
  | none => []
def stp (g : Gr) (L : List (Nat × Nat)) (i : Nat) : List (Nat × Nat) := match L[i]? with
  | some c => L ++ new g L c
  | none => L
def itr (g : Gr) (L : List (Nat × Nat)) : Nat → List (Nat × Nat)
  | 0 => L
  | i + 1 => stp g (itr g L i) i
section
variable {g : Gr}
theorem pl_nodup_take : ∀ i, i ≤ g.length → (pl (g.take i)).Nodup
  | 0, _ => by simp [pl]
  | i + 1, hi => by
    have ei : g[i]? = some g[i] := List.getElem?_eq_getElem (by omega)
    rw [pl_take ei, List.nodup_append]
    refine ⟨pl_nodup_take i (by omega), ?_, ?_⟩
    · refine List.Pairwise.map _ (fun a b h e => h ?_) List.nodup_range
      injection e
    · rintro a ha b hb rfl
      obtain ⟨p, h1, _⟩ := mem_pl.mp ha
      have := (List.getElem?_eq_some_iff.mp h1).1
      obtain ⟨j, _, rfl⟩ := List.mem_map.mp hb
      simp only [List.length_take] at this
      omega
theorem pl_nodup : (pl g).Nodup := by
  have := pl_nodup_take (g := g) g.length (Nat.le_refl _)
  rwa [List.take_of_length_le (Nat.le_refl _)] at this
theorem nodup_le {α : Type} [BEq α] [LawfulBEq α] : ∀ {xs ys : List α}, xs.Nodup → (∀ a ∈ xs, a ∈ ys) → xs.length ≤ ys.length
  | [], _, _, _ => by simp
  | x :: xs, ys, hn, hs => by
    obtain ⟨h1, h2⟩ := List.nodup_cons.mp hn
    have hx := hs x List.mem_cons_self
    have := nodup_le (xs := xs) (ys := ys.erase x) h2 fun a ha => (List.mem_erase_of_ne (fun e => by subst e; exact h1 ha)).mpr (hs a (List.mem_cons_of_mem _ ha))
    rw [List.length_erase_of_mem hx] at this
    have : 0 < ys.length := List.length_pos_of_mem hx
    simp only [List.length_cons]
    omega
/-- what is reached so far -/
structure Good (g : Gr) (L : List (Nat × Nat)) : Prop where
  nd : L.Nodup
  ok : ∀ c ∈ L, inG g c
  pos : 0 < L.length
theorem new_ok {L : List (Nat × Nat)} {c o : Nat × Nat} (h : o ∈ new g L c) : inG g o ∧ o ∉ L := by
  unfold new at h
  split at h
  · rw [List.mem_filter] at h
    exact ⟨mem_pl.mp (List.mem_filter.mp h.1).1, by simpa using h.2⟩
  · cases h
theorem new_nd {L : List (Nat × Nat)} {c : Nat × Nat} : (new g L c).Nodup := by
  unfold new
  split
  · exact (pl_nodup.filter _).filter _
  · exact List.nodup_nil
theorem Good.stp {L : List (Nat × Nat)} (w : Good g L) (i : Nat) : Good g (stp g L i) := by
  unfold Zc.stp
  split
  · refine ⟨?_, ?_, by have := w.pos; rw [List.length_append]; omega⟩
    · rw [List.nodup_append]
      exact ⟨w.nd, new_nd, fun a ha b hb e => (new_ok hb).2 (e ▸ ha)⟩
    · intro o ho
      rcases List.mem_append.mp ho with h | h
      · exact w.ok o h
      · exact (new_ok h).1
  · exact w
theorem Good.itr {L : List (Nat × Nat)} (w : Good g L) : ∀ i, Good g (itr g L i)
  | 0 => w
  | i + 1 => (Good.itr w i).stp i
theorem Good.le {L : List (Nat × Nat)} (w : Good g L) (ok : OkG g) : L.length ≤ 40 := by
  have := nodup_le w.nd fun c hc => mem_pl.mpr (w.ok c hc)
  rw [pl_len] at this
  have := ok.all
  omega
theorem itr_stay {L : List (Nat × Nat)} {i : Nat} (h : (itr g L i).length ≤ i) : ∀ j, itr g L (i + j) = itr g L i
  | 0 => rfl
  | j + 1 => by
    show stp g (itr g L (i + j)) (i + j) = _
    rw [itr_stay h j]
    unfold stp
    rw [List.getElem?_eq_none (by omega)]
theorem good1 {c : Nat × Nat} (h : inG g c) : Good g [c] := ⟨by simp, fun d hd => by rw [List.mem_singleton.mp hd]; exact h, by simp⟩
end
def ip (c : Nat × Nat) : Int × Int := ((c.1 : Int), (c.2 : Int))
def srt (L : List (Nat × Nat)) : List D := (sortP (L.map ip)).map pairD
theorem prs_dC : ∀ L : List (Nat × Nat), prs (L.map dC) = some (L.map ip)
  | [] => rfl
  | c :: L => by
    rw [List.map_cons]
    unfold prs
    rw [prs_dC L]
    rfl
theorem its_dC : ∀ {L : List (Nat × Nat)}, 0 < L.length → its' (L.map dC) = none
  | [], h => by cases h
  | c :: L, _ => by
    rw [List.map_cons]
    unfold its'
    cases its' (L.map dC) <;> rfl
theorem sortedF_dC {h : IH} {q : Nat} {L : List (Nat × Nat)} (e : h[q]? = some (.lst (L.map dC))) (p : 0 < L.length) : sortedF [.ref q] h = .ok (.ref h.length) (h ++ [.lst (srt L)]) := by
  unfold sortedF
  simp only [lisOf_ref e, its_dC p, prs_dC]
  rfl
theorem inM_dC' {cs : List (Nat × Nat)} {c : Nat × Nat} {h : IH} {m : Nat} (hm : h[m]? = some (.lst (cs.map dC))) : inM true (dC c) (.ref m) h = .ok (.bl (!decide (c ∈ cs))) h := by
  rw [inM_pl (lisOf_ref hm) pln_dC (all_map (fun _ => pln_dC) cs)]
  simp [mem_dC]
theorem extendF_ref {h : IH} {n k : Nat} {xs ys : List D} (e1 : h[n]? = some (.lst xs)) (e2 : h[k]? = some (.lst ys)) (hl : xs.length + ys.length ≤ 16777216) : extendF (.ref n) [.ref k] h = .ok .non (h.set n (.lst (xs ++ ys))) := by
  unfold extendF
  simp [e1, e2, hl]
section
variable {h H : IH} {g : Gr} {n q i : Nat} {c : Nat × Nat} {L : List (Nat × Nat)}
/-- one turn, either side -/
theorem ext_turn {mi : MI} {env : Ev} {c : Nat × Nat} {x : Pt} {k : Nat} {h1 : IH} {m2 : ME} (ok : OkG g) (gd : Good g L) (hx : isP g c x) (e1 : mi env H = .ok (.live (viewL k)) h1) (hk : h1[k]? = some (.lst ((nm g c x).map dC))) (A : Ap H h1) (hq : H[q]? = some (.lst (L.map dC)))
    (v2 : ∀ y h, varM 2 ((wipeE env [4]).set 4 y) h = .ok (.ref q) h) (v2' : ∀ h, varM 2 env h = .ok (.ref q) h) (v4 : ∀ o : Nat × Nat, ∀ h, varM 4 ((wipeE env [4]).set 4 (some (dC o))) h = .ok (dC o) h) :
    ∃ h2, methM extendF (varM 2) (aconsM (lcM mi [4] (gnameM 4) (btestM (binM (inM true) (varM 4) (varM 2))) (varM 4)) anilM) env H = .ok .non h2 ∧ h2[q]? = some (.lst ((L ++ new g L c).map dC)) ∧ (∀ B : IH, Ap B H → B.length ≤ q → Ap B h2) := by
  have plen : (pl g).length ≤ 40 := by rw [pl_len]; exact ok.all
  have nlen : (nm g c x).length ≤ 40 := Nat.le_trans (List.length_filter_le _ _) plen
  have hq1 := A.get hq
  have e2 := lc_filt (f := dC) (b := fun o => !decide (o ∈ L)) (g := gnameM 4) (mt := btestM (binM (inM true) (varM 4) (varM 2))) (me := varM 4) (own := [4]) (xs := nm g c x) e1 hk (by unfold MOST; omega) (fun o _ => ⟨_, rfl, by rw [btestM_eq, binM_eq, v4]; simp only [R.bindG_ok]; rw [v2]; simp only [R.bindG_ok]; rw [inM_dC' hq1]; rfl, v4 o _⟩)
  have en : ((nm g c x).filter fun o => !decide (o ∈ L)) = new g L c := by
    unfold new
    rw [ptAt_of hx]
  rw [en] at e2
  have mm := methM_ref (m := extendF) (mo := varM 2) (ms := aconsM (lcM mi [4] (gnameM 4) (btestM (binM (inM true) (varM 4) (varM 2))) (varM 4)) anilM) (env := env) (h := H) (h1 := H) (n := q) (xs := L.map dC) (ds := [.ref h1.length]) (h2 := h1 ++ [.lst ((new g L c).map dC)]) (v2' H) hq (by simp [e2])
  have hq2 : (h1 ++ [IO.lst ((new g L c).map dC)])[q]? = some (.lst (L.map dC)) := (Ap.app (h := h1)).get hq1
  have l1 := gd.le ok
  have l2 : (new g L c).length ≤ 40 := by rw [← en]; exact Nat.le_trans (List.length_filter_le _ _) nlen
  have ex := extendF_ref hq2 (k := h1.length) (ys := (new g L c).map dC) (by simp) (by simp; omega)
  rw [ex] at mm
  refine ⟨_, mm, ?_, fun B b hb => ?_⟩
  · rw [List.getElem?_set_self (List.getElem?_eq_some_iff.mp hq2).1, List.map_append]
  · exact ((b.trans A).trans .app).set hb
noncomputable def rcB : MS := seqM (exprM (methM extendF (varM 2) (aconsM (lcM (seqI (omM "Graph" "named" F_Graph_named (varM 0) (aconsM (binM ixM (varM 2) (varM 3)) anilM))) [4] (gnameM 4) (btestM (binM (inM true) (varM 4) (varM 2))) (varM 4)) anilM)))
    (setM 3 (binM addM (varM 3) (constM (.int 1))))
noncomputable def rcT : MT := btestM (binM ltM (varM 3) (callM lenF (aconsM (varM 2) anilM)))
theorem rc_loop {B : IH} (wB : isG B n g) (ok : OkG g) (hc : inG g c) (q2 : B.length ≤ q) : ∀ (fuel i : Nat) (H : IH), i ≤ 41 → 41 - i < fuel → Ap B H → H[q]? = some (.lst ((itr g [c] i).map dC)) →
    ∃ (j : Int) (H' : IH), whileM rcT rcB fuel [some (.ref n), some (dC c), some (.ref q), some (.int (i : Int)), none] H = .nx [some (.ref n), some (dC c), some (.ref q), some (.int j), none] H' ∧ H'[q]? = some (.lst ((itr g [c] 41).map dC)) ∧ Ap B H'
  | 0, i, H, hi, hf, _, _ => by omega
  | fuel + 1, i, H, hi, hf, A, hq => by
    have gd := (good1 hc).itr i
    have le := gd.le ok
    have ln := lenF_ref hq
    rw [List.length_map] at ln
    have t : rcT [some (.ref n), some (dC c), some (.ref q), some (.int (i : Int)), none] H = .ok (decide ((i : Int) < ((itr g [c] i).length : Int))) H := by simp [rcT, ln]
    by_cases z : i < (itr g [c] i).length
    · have el : (itr g [c] i)[i]? = some (itr g [c] i)[i] := List.getElem?_eq_getElem z
      have hin := gd.ok _ (List.getElem_mem z)
      obtain ⟨x, hx⟩ := inG_isP hin
      obtain ⟨k, h1, e1, hk, A1, _⟩ := ev_named (wB.ap A) ok hx
      have ix : ixM (.ref q) (.int (i : Int)) H = .ok (dC (itr g [c] i)[i]) H := ixM_dCs hq el
      have eo := om_ap (h := H) (cl := "Graph") (me := "named") (F := F_Graph_named) (mo := varM 0) (ma := aconsM (binM ixM (varM 2) (varM 3)) anilM) (e := [some (.ref n), some (dC c), some (.ref q), some (.int (i : Int)), none]) rfl rfl (wB.ap A) (by simp) (by simp [ix]) e1
      obtain ⟨h2, m2, q3, A2⟩ := ext_turn (m2 := varM 2) (mi := seqI (omM "Graph" "named" F_Graph_named (varM 0) (aconsM (binM ixM (varM 2) (varM 3)) anilM))) (env := [some (.ref n), some (dC c), some (.ref q), some (.int (i : Int)), none]) ok gd hx (by simp [eo, srcOf_ref hk]) hk A1 hq (fun y h => by simp [wipeE]) (fun h => by simp) (fun o h => by
        have oo : ∀ h, okV h (dC o) = .ok (dC o) h := fun h => rfl
        simp [wipeE, oo])
      have es : itr g [c] i ++ new g (itr g [c] i) (itr g [c] i)[i] = itr g [c] (i + 1) := by
        show _ = stp g (itr g [c] i) i
        unfold stp
        rw [el]
      rw [es] at q3
      obtain ⟨j, H', r1, r2, r3⟩ := rc_loop wB ok hc q2 fuel (i + 1) h2 (by omega) (by omega) (A2 B A q2) q3
      refine ⟨j, H', ?_, r2, r3⟩
      have bd : rcB [some (.ref n), some (dC c), some (.ref q), some (.int (i : Int)), none] H = .nx [some (.ref n), some (dC c), some (.ref q), some (.int ((i + 1 : Nat) : Int)), none] h2 := by
        simp only [rcB, seqM_eq, exprM_eq]
        rw [m2]
        simp
      show ((rcT _ H).thenS _ fun b h => if b = true then (match rcB _ h with
        | .nx e h => whileM rcT rcB fuel e h
        | .ct e h => whileM rcT rcB fuel e h
        | .bk e h => .nx e h
        | .rt d h => .rt d h
        | .exc x e h => .exc x e h
        | .stuck => .stuck) else .nx _ h) = _
      rw [t, decide_eq_true (by omega)]
      simp only [R.thenS, R.bindG_ok, if_true]
      rw [bd]
      exact r1
    · refine ⟨(i : Int), H, ?_, ?_, A⟩
      · show ((rcT _ H).thenS _ fun b h => if b = true then (match rcB _ h with
        | .nx e h => whileM rcT rcB fuel e h
        | .ct e h => whileM rcT rcB fuel e h
        | .bk e h => .nx e h
        | .rt d h => .rt d h
        | .exc x e h => .exc x e h
        | .stuck => .stuck) else .nx _ h) = _
        rw [t, decide_eq_false (by omega)]
        simp [R.thenS]
      · have := itr_stay (g := g) (L := [c]) (i := i) (by omega) (41 - i)
        rw [show i + (41 - i) = 41 by omega] at this
        rw [this]
        exact hq
end
end Zc
/-! G3H: reached, told. -/
namespace Zc
open PySem L2 Z Q
section
variable {h : IH} {g : Gr} {n : Nat} {c : Nat × Nat}
theorem loop42 : 41 - 0 < LOOP := by unfold LOOP; decide
theorem ev_reached (w : isG h n g) (ok : OkG g) (hc : inG g c) : ∃ (k : Nat) (h' : IH), F_Graph_reached [.ref n, dC c] h = .ok (.ref k) h' ∧ h'[k]? = some (.lst (srt (itr g [c] 41))) ∧ Ap h h' ∧ h.length ≤ k := by
  have oc : ∀ h, okV h (dC c) = .ok (dC c) h := fun h => rfl
  have e1 := om_ap (h := h) (cl := "Graph") (me := "check_place") (F := F_Graph_check_place) (mo := varM 0) (ma := aconsM (varM 1) anilM) (e := [some (.ref n), some (dC c), none, none, none]) rfl rfl w (by simp) (by simp [oc]) (ev_check_place w hc)
  obtain ⟨j, h1, e2, q1, A1⟩ := rc_loop (n := n) (c := c) (q := h.length) w ok hc (Nat.le_refl _) LOOP 0 (h ++ [.lst [dC c]]) (by decide) loop42 .app (by simp [itr])
  have so := sortedF_dC q1 ((good1 hc).itr 41).pos
  refine ⟨h1.length, h1 ++ [.lst (srt (itr g [c] 41))], ?_, by simp, A1.trans .app, A1.len⟩
  have e2' : whileM (btestM (binM ltM (varM 3) (callM lenF (aconsM (varM 2) anilM)))) (seqM (exprM (methM extendF (varM 2) (aconsM (lcM (seqI (omM "Graph" "named" F_Graph_named (varM 0) (aconsM (binM ixM (varM 2) (varM 3)) anilM))) [4] (gnameM 4) (btestM (binM (inM true) (varM 4) (varM 2))) (varM 4)) anilM)))
    (setM 3 (binM addM (varM 3) (constM (.int 1))))) LOOP [some (.ref n), some (dC c), some (.ref h.length), some (.int 0), none] (h ++ [.lst [dC c]]) = _ := e2
  simp only [F_Graph_reached, M_Graph_reached, defM, seqM_eq, setM_eq, exprM_eq, List.map_cons, List.map_nil, List.length_cons, List.length_nil, List.cons_append, List.nil_append, Nat.reduceAdd, Nat.reduceSub, Nat.zero_add, List.replicate]
  rw [e1]
  simp [lstM_eq, newL_eq, oc]
  rw [e2']
  simp [so]
  exact trunc_new A1.len
noncomputable def lrB : MS := ifM (btestM (binM ltM (varM 3) (callM lenF (aconsM (varM 2) anilM)))) (exprM (methM extendF (varM 2) (aconsM (lcM (seqI (callM F__law_named (aconsM (varM 0) (aconsM (binM ixM (varM 2) (varM 3)) anilM)))) [4] (gnameM 4) (btestM (binM (inM true) (varM 4) (varM 2))) (varM 4)) anilM))) nextM
theorem ev_law_reached (ok : OkG g) (hc : inG g c) : ∃ (k : Nat) (h' : IH), F__law_reached [dG g, dC c] h = .ok (.ref k) h' ∧ h'[k]? = some (.lst (srt (itr g [c] 41))) ∧ Ap h h' ∧ h.length ≤ k := by
  have oc : ∀ h, okV h (dC c) = .ok (dC c) h := fun h => rfl
  obtain ⟨e', h1, e1, a, rfl, q1, A1⟩ := forS_inv (ds := rngD 0 41) (g := gnameM 3) (mb := lrB) (fun i e H => ∃ a, e = [some (dG g), some (dC c), some (.ref h.length), a, none] ∧ H[h.length]? = some (.lst ((itr g [c] i).map dC)) ∧ Ap h H) (by
    rintro i e H d ⟨a, rfl, hq, A⟩ hd
    obtain ⟨hi, rfl⟩ := rngD_get hd
    have z0 : (0 : Int) + (i : Int) = (i : Int) := by omega
    rw [z0]
    have gd := (good1 hc).itr i
    have ln := lenF_ref hq
    rw [List.length_map] at ln
    by_cases z : i < (itr g [c] i).length
    · have el : (itr g [c] i)[i]? = some (itr g [c] i)[i] := List.getElem?_eq_getElem z
      have hin := gd.ok _ (List.getElem_mem z)
      obtain ⟨x, hx⟩ := inG_isP hin
      obtain ⟨k, h1, e1, hk, A1, _⟩ := ev_law_named (h := H) ok hx
      have ix : ixM (.ref h.length) (.int (i : Int)) H = .ok (dC (itr g [c] i)[i]) H := ixM_dCs hq el
      obtain ⟨h2, m2, q3, A2⟩ := ext_turn (m2 := varM 2) (mi := seqI (callM F__law_named (aconsM (varM 0) (aconsM (binM ixM (varM 2) (varM 3)) anilM)))) (env := [some (dG g), some (dC c), some (.ref h.length), some (.int (i : Int)), none]) ok gd hx (by simp [okV_dG, ix, e1, srcOf_ref hk]) hk A1 hq (fun y h => by simp [wipeE]) (fun h => by simp) (fun o h => by
        have oo : ∀ h, okV h (dC o) = .ok (dC o) h := fun h => rfl
        simp [wipeE, oo])
      have es : itr g [c] i ++ new g (itr g [c] i) (itr g [c] i)[i] = itr g [c] (i + 1) := by
        show _ = stp g (itr g [c] i) i
        unfold stp
        rw [el]
      rw [es] at q3
      refine ⟨_, rfl, [some (dG g), some (dC c), some (.ref h.length), some (.int (i : Int)), none], h2, .inl ?_, _, rfl, q3, A2 h A (Nat.le_refl _)⟩
      have t : btestM (binM ltM (varM 3) (callM lenF (aconsM (varM 2) anilM))) [some (dG g), some (dC c), some (.ref h.length), some (.int (i : Int)), none] H = .ok true H := by simp [ln, z]
      simp only [lrB, ifM_eq, List.set]
      rw [t]
      simp only [R.bindG_ok, if_true, exprM_eq]
      rw [m2]
      rfl
    · refine ⟨_, rfl, [some (dG g), some (dC c), some (.ref h.length), some (.int (i : Int)), none], H, .inl (by simp [lrB, ln, z]), _, rfl, ?_, A⟩
      have := itr_stay (g := g) (L := [c]) (i := i) (by omega) 1
      rw [this]
      exact hq) 41 0 [some (dG g), some (dC c), some (.ref h.length), none, none] (h ++ [.lst [dC c]]) (by rw [Zc.rngD_length]) (by omega) ⟨_, rfl, by simp [itr], .app⟩
  rw [List.drop_zero] at e1
  rw [Zc.rngD_length] at q1
  have so := sortedF_dC q1 ((good1 hc).itr 41).pos
  refine ⟨h1.length, h1 ++ [.lst (srt (itr g [c] 41))], ?_, by simp, A1.trans .app, A1.len⟩
  have hr := rngI1_int (j := 41) (n := 41) (h := h ++ [.lst [dC c]]) (h' := h ++ [.lst [dC c]]) (ms := aconsM (constM (.int 41)) anilM) (env := [some (dG g), some (dC c), some (.ref h.length), none, none]) (by simp) rfl (by decide) (by decide)
  unfold lrB at e1
  simp [F__law_reached, M__law_reached, defM, lstM_eq, newL_eq, oc, hr, -rngI1_eq, e1, so]
  exact trunc_new A1.len
end
/-- lists of the same pairs are equal -/
theorem eq_pairs {h : IH} {m n : Nat} {xs : List D} (hm : h[m]? = some (.lst xs)) (hn : h[n]? = some (.lst xs)) (hl : xs.length ≤ 1000) (p : ∀ x ∈ xs, ∃ i j : Int, x = .tup [.int i, .int j]) : F__law_equal_r 5 [.ref m, .ref n] h = .ok (.bl true) h := by
  refine eq_ref (k := 4) hm hn rfl (by omega) fun i h1 h2 => ?_
  obtain ⟨a, b, e⟩ := p xs[i] (List.getElem_mem h1)
  rw [e]
  refine eq_tup (k := 3) rfl (by simp) fun j h1 h2 => ?_
  have : j = 0 ∨ j = 1 := by simp at h1; omega
  rcases this with rfl | rfl
  · have := eq_int (k := 2) (i := a) (j := a) (h := h)
    simpa using this
  · have := eq_int (k := 2) (i := b) (j := b) (h := h)
    simpa using this
theorem dC_pairs {L : List (Nat × Nat)} : ∀ x ∈ L.map dC, ∃ i j : Int, x = .tup [.int i, .int j] := fun x hx => by
  obtain ⟨c, _, rfl⟩ := List.mem_map.mp hx
  exact ⟨_, _, rfl⟩
theorem srt_pairs {L : List (Nat × Nat)} : ∀ x ∈ srt L, ∃ i j : Int, x = .tup [.int i, .int j] := fun x hx => by
  unfold srt at hx
  obtain ⟨c, _, rfl⟩ := List.mem_map.mp hx
  exact ⟨_, _, rfl⟩
theorem srt_len {L : List (Nat × Nat)} : (srt L).length = L.length := by unfold srt sortP; simp
end Zc
namespace Zl
open PySem L2 Z Zc Q
noncomputable def toA : MS := seqM (setM 7 (lstM (aconsM (omM "Graph" "named" F_Graph_named (varM 3) (aconsM (varM 4) anilM)) (aconsM (omM "Graph" "reached" F_Graph_reached (varM 3) (aconsM (varM 4) anilM)) anilM))))
  (seqM (ifM (tnotM (testM (callM F__law_equal (aconsM (varM 7) (aconsM (varM 5) anilM))))) (retM (constM (.bl false))) nextM)
  (seqM (exprM (methM appendF (binM ixM (varM 7) (constM (.int 0))) (aconsM (tupM (aconsM (constM (.int 0)) (aconsM (constM (.int 0)) anilM))) anilM)))
  (exprM (methM appendF (binM ixM (varM 7) (constM (.int 1))) (aconsM (tupM (aconsM (constM (.int 0)) (aconsM (constM (.int 0)) anilM))) anilM)))))
noncomputable def toB : MS := seqM (setM 5 (lstM (aconsM (callM F__law_named (aconsM (varM 2) (aconsM (varM 4) anilM))) (aconsM (callM F__law_reached (aconsM (varM 2) (aconsM (varM 4) anilM))) anilM))))
  (forM (rngI1 (aconsM (constM (.int 2)) anilM)) (gnameM 6) toA)
section
variable {s : D} {g : Gr} {ng : Nat} {c : Nat × Nat} {x : Pt}
theorem to_turn {a b t5 : Nat} {x6 x7 : Option D} {H : IH} (w : isG H ng g) (ok : OkG g) (hx : isP g c x) (h5 : H[t5]? = some (.lst [.ref a, .ref b])) (ha : H[a]? = some (.lst ((nm g c x).map dC))) (hb : H[b]? = some (.lst (srt (itr g [c] 41)))) :
    ∃ (t : Nat) (H' : IH), toA [some s, some (.ref 1), some (dG g), some (.ref ng), some (dC c), some (.ref t5), x6, x7] H = .nx [some s, some (.ref 1), some (dG g), some (.ref ng), some (dC c), some (.ref t5), x6, some (.ref t)] H' ∧ Ap H H' := by
  have oc : ∀ h, okV h (dC c) = .ok (dC c) h := fun h => rfl
  have plen : (pl g).length ≤ 40 := by rw [pl_len]; exact ok.all
  have nlen : (nm g c x).length ≤ 40 := Nat.le_trans (List.length_filter_le _ _) plen
  have slen : (srt (itr g [c] 41)).length ≤ 40 := by rw [srt_len]; exact ((good1 hx.inG).itr 41).le ok
  obtain ⟨k1, h1, e1, q1, A1, l1⟩ := ev_named w ok hx
  obtain ⟨k2, h2, e2, q2, A2, l2⟩ := ev_reached (w.ap A1) ok hx.inG
  have o1 := om_ap (h := H) (cl := "Graph") (me := "named") (F := F_Graph_named) (mo := varM 3) (ma := aconsM (varM 4) anilM) (e := [some s, some (.ref 1), some (dG g), some (.ref ng), some (dC c), some (.ref t5), x6, x7]) rfl rfl w (by simp) (by simp [oc]) e1
  have o2 := om_ap (h := h1) (cl := "Graph") (me := "reached") (F := F_Graph_reached) (mo := varM 3) (ma := aconsM (varM 4) anilM) (e := [some s, some (.ref 1), some (dG g), some (.ref ng), some (dC c), some (.ref t5), x6, x7]) rfl rfl (w.ap A1) (by simp) (by simp [oc]) e2
  have k1l : k1 < h1.length := (List.getElem?_eq_some_iff.mp q1).1
  have k2l : k2 < h2.length := (List.getElem?_eq_some_iff.mp q2).1
  have A3 : Ap h2 (h2 ++ [.lst [.ref k1, .ref k2]]) := .app
  have lt : lstM (aconsM (omM "Graph" "named" F_Graph_named (varM 3) (aconsM (varM 4) anilM)) (aconsM (omM "Graph" "reached" F_Graph_reached (varM 3) (aconsM (varM 4) anilM)) anilM)) [some s, some (.ref 1), some (dG g), some (.ref ng), some (dC c), some (.ref t5), x6, x7] H = .ok (.ref h2.length) (h2 ++ [.lst [.ref k1, .ref k2]]) := by simp [lstM_eq, newL_eq, o1, o2]
  have q3 : (h2 ++ [IO.lst [.ref k1, .ref k2]])[h2.length]? = some (.lst [.ref k1, .ref k2]) := by simp
  generalize h2 ++ [IO.lst [D.ref k1, .ref k2]] = h3 at A3 q3 lt
  have A : Ap H h3 := (A1.trans A2).trans A3
  have g1 : h3[k1]? = some (.lst ((nm g c x).map dC)) := A3.get (A2.get q1)
  have g2 : h3[k2]? = some (.lst (srt (itr g [c] 41))) := A3.get q2
  have eq : F__law_equal [.ref h2.length, .ref t5] h3 = .ok (.bl true) h3 := by
    refine eq_ref (k := 5) q3 (A.get h5) rfl (by simp) fun i h1 h2 => ?_
    have : i = 0 ∨ i = 1 := by simp at h1; omega
    rcases this with rfl | rfl
    · exact eq_pairs g1 (A.get ha) (by simp; omega) dC_pairs
    · exact eq_pairs g2 (A.get hb) (by omega) srt_pairs
  have p1 := append_ref (d := dC (0, 0)) g1 (by simp; omega)
  have m1 := methM_ref (m := appendF) (mo := binM ixM (varM 7) (constM (.int 0))) (ms := aconsM (tupM (aconsM (constM (.int 0)) (aconsM (constM (.int 0)) anilM))) anilM) (env := [some s, some (.ref 1), some (dG g), some (.ref ng), some (dC c), some (.ref t5), x6, some (.ref h2.length)]) (h := h3) (h1 := h3) (n := k1) (ds := [dC (0, 0)]) (h2 := h3) (by simp [ixM_ref q3]) g1 (by simp [tupM_eq]; rfl)
  rw [p1] at m1
  have A4 : Ap H (h3.set k1 (.lst ((nm g c x).map dC ++ [dC (0, 0)]))) := A.set l1
  have q4 : (h3.set k1 (.lst ((nm g c x).map dC ++ [dC (0, 0)])))[h2.length]? = some (.lst [.ref k1, .ref k2]) := by
    rw [List.getElem?_set_ne (by have := A2.len; omega)]
    exact q3
  have g4 : (h3.set k1 (.lst ((nm g c x).map dC ++ [dC (0, 0)])))[k2]? = some (.lst (srt (itr g [c] 41))) := by
    rw [List.getElem?_set_ne (by omega)]
    exact g2
  generalize h3.set k1 (.lst ((nm g c x).map dC ++ [dC (0, 0)])) = h4 at m1 A4 q4 g4
  have p2 := append_ref (d := dC (0, 0)) g4 (by omega)
  have m2 := methM_ref (m := appendF) (mo := binM ixM (varM 7) (constM (.int 1))) (ms := aconsM (tupM (aconsM (constM (.int 0)) (aconsM (constM (.int 0)) anilM))) anilM) (env := [some s, some (.ref 1), some (dG g), some (.ref ng), some (dC c), some (.ref t5), x6, some (.ref h2.length)]) (h := h4) (h1 := h4) (n := k2) (ds := [dC (0, 0)]) (h2 := h4) (by simp [ixM_ref q4]) g4 (by simp [tupM_eq]; rfl)
  rw [p2] at m2
  refine ⟨h2.length, h4.set k2 (.lst (srt (itr g [c] 41) ++ [dC (0, 0)])), ?_, A4.set (by have := A1.len; omega)⟩
  simp only [toA, seqM_eq, setM_eq]
  rw [lt]
  simp [eq, m1, m2]
theorem to_place {B H : IH} {x5 x6 x7 : Option D} (wB : isG B ng g) (ok : OkG g) (hc : inG g c) (A : Ap B H) :
    ∃ (y5 y6 y7 : Option D) (H' : IH), toB [some s, some (.ref 1), some (dG g), some (.ref ng), some (dC c), x5, x6, x7] H = .nx [some s, some (.ref 1), some (dG g), some (.ref ng), some (dC c), y5, y6, y7] H' ∧ Ap B H' := by
  have oc : ∀ h, okV h (dC c) = .ok (dC c) h := fun h => rfl
  obtain ⟨x, hx⟩ := inG_isP hc
  obtain ⟨k1, h1, e1, q1, A1, l1⟩ := ev_law_named (h := H) ok hx
  obtain ⟨k2, h2, e2, q2, A2, l2⟩ := ev_law_reached (h := h1) ok hc
  have A3 : Ap h2 (h2 ++ [.lst [.ref k1, .ref k2]]) := .app
  have lt : lstM (aconsM (callM F__law_named (aconsM (varM 2) (aconsM (varM 4) anilM))) (aconsM (callM F__law_reached (aconsM (varM 2) (aconsM (varM 4) anilM))) anilM)) [some s, some (.ref 1), some (dG g), some (.ref ng), some (dC c), x5, x6, x7] H = .ok (.ref h2.length) (h2 ++ [.lst [.ref k1, .ref k2]]) := by simp [lstM_eq, newL_eq, okV_dG, oc, e1, e2]
  have q3 : (h2 ++ [IO.lst [.ref k1, .ref k2]])[h2.length]? = some (.lst [.ref k1, .ref k2]) := by simp
  generalize h2 ++ [IO.lst [D.ref k1, .ref k2]] = h3 at A3 q3 lt
  have g1 : h3[k1]? = some (.lst ((nm g c x).map dC)) := A3.get (A2.get q1)
  have g2 : h3[k2]? = some (.lst (srt (itr g [c] 41))) := A3.get q2
  have AB : Ap B h3 := ((A.trans A1).trans A2).trans A3
  have r2 : rngD 0 2 = [.int 0, .int 1] := rfl
  obtain ⟨t1, h4, m1, A4⟩ := to_turn (s := s) (x6 := some (.int 0)) (x7 := x7) (wB.ap AB) ok hx q3 g1 g2
  obtain ⟨t2, h5, m2, A5⟩ := to_turn (s := s) (x6 := some (.int 1)) (x7 := some (.ref t1)) (wB.ap (AB.trans A4)) ok hx (A4.get q3) (A4.get g1) (A4.get g2)
  have hr := rngI1_int (j := 2) (n := 2) (h := h3) (h' := h3) (ms := aconsM (constM (.int 2)) anilM) (env := [some s, some (.ref 1), some (dG g), some (.ref ng), some (dC c), some (.ref h2.length), x6, x7]) (by simp) rfl (by decide) (by decide)
  refine ⟨some (.ref h2.length), some (.int 1), some (.ref t2), h5, ?_, (AB.trans A4).trans A5⟩
  simp only [toB, seqM_eq, setM_eq]
  rw [lt]
  simp only [R.bindG_ok, List.set, forM_eq]
  rw [hr, r2]
  simp only [R.bindG_ok, forS_cons, forS_nil, turnM_eq, gnameM_eq, List.set]
  rw [m1]
  simp only [List.set]
  rw [m2]
end
theorem law_true (ns : List Int) (hl : ns.length ≤ 63) : ∃ h, F_law [.fz (ns.map .int)] [] = .ok (.bl true) h := by
  have e0 := ev_stream (ds := ns) (h := [])
  obtain ⟨d, h0, e00, c0, g0, l0⟩ := ev_dr (k := 2) (st0 (ds := ns)) (by decide)
  obtain ⟨g, h1, e1, ok, _, g1⟩ := ev_law_any (most := 4) (pts := 8) (ch := decide ((d : Int) = 1)) g0.st (by decide) (by decide) (by decide) (by decide) (by decide)
  have mk := mk_Graph (g := g) (h := h1) (ma := aconsM (varM 2) anilM) (env := [some (.fz (ns.map .int)), some (.ref 1), some (dG g), none, none, none, none, none]) (by simp [okV_dG]) ok
  have w2 : isG (h1 ++ [.ins "Graph" (gF g)]) h1.length g := by unfold isG; simp
  generalize h1 ++ [IO.ins "Graph" (gF g)] = h2 at mk w2
  generalize h1.length = ng at mk w2
  obtain ⟨h3, e3, q3, A3⟩ := ev_law_places (h := h2) ok
  have plen : (pl g).length ≤ 40 := by rw [pl_len]; exact ok.all
  obtain ⟨e', h4, e4, x4, x5, x6, x7, rfl, A4⟩ := forV_inv (ds := (pl g).map dC) (g := gnameM 4) (mb := toB) (v := viewL h2.length) (fun i e H => ∃ x4 x5 x6 x7, e = [some (.fz (ns.map .int)), some (.ref 1), some (dG g), some (.ref ng), x4, x5, x6, x7] ∧ Ap h3 H) (by simp; omega) (by
    rintro i e H ⟨_, _, _, _, _, A⟩
    exact viewL_eq (A.get q3)) (by
    rintro i e H d ⟨x4, x5, x6, x7, rfl, A⟩ hd
    rw [List.getElem?_map] at hd
    obtain ⟨c, hc, rfl⟩ := Option.map_eq_some_iff.mp hd
    obtain ⟨y5, y6, y7, H', r1, r2⟩ := to_place (s := .fz (ns.map .int)) (x5 := x5) (x6 := x6) (x7 := x7) (w2.ap A3) ok (mem_pl.mp (List.mem_of_getElem? hc)) A
    exact ⟨_, rfl, _, H', .inl r1, _, _, _, _, rfl, r2⟩) ((pl g).map dC).length 0 [some (.fz (ns.map .int)), some (.ref 1), some (dG g), some (.ref ng), none, none, none, none] h3 (by omega) (by omega) ⟨_, _, _, _, rfl, .refl⟩
  have e4' := forV_0.trans e4
  have sq : seqI (callM F__law_places (aconsM (varM 2) anilM)) [some (.fz (ns.map .int)), some (.ref 1), some (dG g), some (.ref ng), none, none, none, none] h2 = .ok (.live (viewL h2.length)) h3 := by simp [okV_dG, e3, srcOf_ref q3]
  have e5 : Z.forM (seqI (callM F__law_places (aconsM (varM 2) anilM))) (gnameM 4) toB [some (.fz (ns.map .int)), some (.ref 1), some (dG g), some (.ref ng), none, none, none, none] h2 = .nx [some (.fz (ns.map .int)), some (.ref 1), some (dG g), some (.ref ng), x4, x5, x6, x7] h4 := by
    rw [forM_eq, sq]
    simp only [R.bindG_ok]
    rw [e4']
  clear e4 e4' sq
  unfold toB toA at e5
  have e1' : F__law_any [.ref 1, .int 4, .int 8, .bl (decide ((d : Int) = 1))] h0 = .ok (dG g) h1 := e1
  simp [F_law, M_law, defM, e0, e00, e1', okV_dG, mk, -forM_eq, e5]
  exact ⟨[], by rw [trunc_ok, if_pos (by simp)]⟩
end Zl
open PySem PySem.W PySem.Calls PyProof.Rows
theorem PySem.Challenge.cw_oddscall_k16_named_and_reached_holds : PySem.Challenge.rw_oddscall_k16_named_and_reached.Holds := by
  w_on; o_law
  refine HandSHeadRun.head_imp (r := OpenLaw.row PySem.Challenge.rw_oddscall_k16_named_and_reached) (q := view (OpenLaw.row PySem.Challenge.rw_oddscall_k16_named_and_reached).prog [0, 49]) (H := Zl.hk) (ob := Zl.ob) (M := 3000) (loose := Zl.loose) (d := HandSHeadRun.topDef (OpenLaw.row PySem.Challenge.rw_oddscall_k16_named_and_reached).prog 49) (kwd := []) Zl.ob_eq
    Zl.run (by kernel_rfl) (by kernel_rfl) (by kernel_rfl) (by rfl) (by first | assumption | decide +kernel) (by decide +kernel) ⟨rfl, rfl, rfl, rfl, rfl, by decide +kernel⟩ ?hw ?hc
  case hw => w_witness2
  case hc =>
    refine L2.walk_ofE (l := PySem.Challenge.rw_oddscall_k16_named_and_reached) (n := 63) (k := 9) (x := "_law_script") (CX := L2.CX0) rfl (by decide) (by kernel_rfl) ⟨rfl, by decide, by decide⟩ ?F (fun _ _ _ _ z => z)
    intro w mg fa h Y G hmg0
    obtain ⟨K, KX, c⟩ := Y
    have hmg : mg ("law" : PySem.Str) = some (.ref fa) := by
      have e : (HandSHeadRun.topDef (OpenLaw.row PySem.Challenge.rw_oddscall_k16_named_and_reached).prog 49).name = ("law" : PySem.Str) := by kernel_rfl
      rw [← e]
      exact hmg0
    obtain ⟨fd, hb, hF⟩ := Zl.facts (P := (PySem.Challenge.rw_oddscall_k16_named_and_reached).prog) (w := w) KX G hmg c
    exact ⟨K, fd, (fun vs H Q _ => Z.spF K mg 1 Zl.F_law vs H Q fun _ _ _ => False), KX, hb, fun H a ns hl hO hS => Z.law_sp hO hS (Zl.law_true ns hl), fun base _ _ => Z.quiet (hF base)⟩
#print axioms PySem.Challenge.cw_oddscall_k16_named_and_reached_holds
